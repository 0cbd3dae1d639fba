import PyProof.Rows.All
import Wide.All
import OpenK.AllK
import Wide.FinOn
import PyProof.ExcAttrAll.Exception
import PySem.Challenge.RW_np0059_01
set_option Elab.async false
set_option linter.all false
set_option linter.unusedVariables false
set_option linter.unusedSimpArgs false
set_option maxRecDepth 100000
set_option maxHeartbeats 8000000
section
open PySem PySem.W PyProof.Rows
namespace Mine
open PySem.Challenge
def pickAt (l : List Stmt) (ks : List Nat) : List Stmt := ks.filterMap fun i => l[i]?
def view : Program := { pw_np0059_01 with main := { pw_np0059_01.main with body := pickAt pw_np0059_01.main.body [0, 2, 4, 5, 6, 7, 8, 9, 10, 11, 12, 13, 14, 15, 16, 18, 19, 20, 21, 22, 23, 26, 27, 28, 29, 31, 32, 33, 34, 36, 37, 38, 39, 41, 42, 43, 44] } }
abbrev loose : List Str := [Str.ofString "in_direction", Str.ofString "select_in_direction"]
/-- the top's run over a tree of objects -/
def topT (tb : String → Option Builtin) (p : Program) (w : World) (n₀ : Nat) (ann : Option Value) : Nat → SharedT → Thread → Option SharedT
  | 0, _, _ => none
  | n + 1, s, t => match through t with
    | true => some s
    | false => match stepOk n₀ ann t with
      | false => none
      | true => match stepT (denote tb) p w s t with
        | some (s', t') => topT tb p w n₀ ann n s' t'
        | none => none
theorem topT_of {tb : String → Option Builtin} {p : Program} {w : World} {n₀ : Nat} {ann : Option Value} : ∀ {n : Nat} {s s' : SharedT} {t : Thread}, topT tb p w n₀ ann n s t = some s' → topRun tb p w n₀ ann n s.abs t = some s'.abs
  | 0, _, _, _, h => by cases h
  | n + 1, s, s', t, h => by
    unfold topT at h
    unfold topRun
    cases ht : through t with
    | true => rw [ht] at h; cases h; rfl
    | false =>
      rw [ht] at h
      cases hk : stepOk n₀ ann t with
      | false => rw [hk] at h; cases h
      | true =>
        rw [hk] at h
        cases hs : stepT (denote tb) p w s t with
        | none => rw [hs] at h; cases h
        | some r => obtain ⟨s₂, t₂⟩ := r; rw [hs] at h; dsimp only; rw [stepT_spec hs]; exact topT_of h
/-- a heap's objects as a tree -/
def treeOf : List Obj → Nat → BT → BT
  | [], _, t => t
  | o :: l, n, t => treeOf l (n + 1) (t.ins n o)
def toT (s : Shared) : SharedT := ⟨treeOf s.heap.objs.toList 0 .nil, s.heap.objs.size, s.heap.life, s.gens, s.drawn, s.toks, s.os⟩
/-- a list's objects, each brought to its head form -/
def heads {β : Type} : List Obj → (List Obj → β) → β
  | [], k => k []
  | ⟨a, b, c, d⟩ :: l, k => heads l fun l' => k (⟨a, b, c, d⟩ :: l')
theorem heads_eq {β : Type} : ∀ (l : List Obj) (k : List Obj → β), heads l k = k l
  | [], _ => rfl
  | ⟨a, b, c, d⟩ :: l, k => heads_eq l fun l' => k (⟨a, b, c, d⟩ :: l')
def absH {β : Type} (t : SharedT) (k : Shared → β) : β := heads (t.tree.list t.n) fun l => k ⟨⟨l.toArray, t.life⟩, t.gens, t.drawn, t.toks, t.os⟩
theorem absH_eq {β : Type} (t : SharedT) (k : Shared → β) : absH t k = k t.abs := heads_eq _ _
abbrev pq : Program := PySem.Challenge.rw_np0059_01.row.prog
abbrev opn (w : World) : Option Shared := fencedOpening treeTable pq w 4474
def runT (w : World) : Option (Shared × SharedT) := (opn w).bind fun s => (topT treeTable pq w s.heap.objs.size (s.heap.nsMap mainGlobals "__annotations__") 4474 (toT s) (topStub pq)).map fun t => (s, t)
abbrev fit (s₀ s₁ : Shared) : Bool := (s₀.heap.isNs mainGlobals && s₀.gens.size == 0) && (staticsOk (importedModules pq.main.body) s₀.heap s₁.heap && namesBound pq s₁.heap && gensDone s₁ && laidKept s₀.heap s₁.heap)
theorem opn_abs : ∀ w, (opn w).map (fun s => (toT s).abs) = opn w := by intro w; kernel_rfl
theorem run_ends {w : World} {x : Shared × SharedT} (hx : runT w = some x) (hf : fit x.1 x.2.abs = true) : openEnds treeTable pq w 4474 = some x.2.abs := by
  obtain ⟨s, hs, h⟩ := Option.bind_eq_some_iff.mp hx
  obtain ⟨t, ht, rfl⟩ := Option.map_eq_some_iff.mp h
  have ha : (toT s).abs = s := by
    have := opn_abs w
    rw [hs] at this
    exact Option.some.inj this
  have hr := topT_of ht
  rw [ha] at hr
  obtain ⟨h1, h2⟩ := Bool.and_eq_true_iff.mp hf
  show (opn w).bind (topFrom treeTable pq w 4474) = _
  rw [hs]
  show topFrom treeTable pq w 4474 s = _
  unfold topFrom
  rw [h1]
  dsimp only
  rw [hr]
  show (match (_ : Bool) with | true => _ | false => _) = _
  rw [h2]
abbrev Xf : Shared → Bool := fun s => xlAt Mine.view [] s && recOk (RowW.records PySem.Challenge.rw_np0059_01.row.toRowW) s
abbrev OS (s : Shared) := openSeen view loose (importedModules pq.main.body) Xf true s
abbrev OG := openGood view loose
theorem of_run {α : Type} {w : World} {x : Shared × SharedT} {k : Shared → Shared → α} {v : α} (hx : runT w = some x) (h : (runT w).map (fun x => absH x.2 (k x.1)) = some v) : k x.1 x.2.abs = v := by
  rw [hx] at h
  exact (absH_eq x.2 (k x.1)).symm.trans (Option.some.inj h)
theorem look1 : ∀ w, (runT w).map (fun x => absH x.2 fun s => (fit x.1 s, (OS s).1, (OS s).2.1)) = some (true, OG.1, OG.2.1) := by intro w; kernel_rfl
theorem look2 : ∀ w, (runT w).map (fun x => absH x.2 fun s => (OS s).2.2) = some OG.2.2 := by intro w; kernel_rfl
theorem left_of {α : Type} {Yf : Shared → α} {Ya : World → α} (h : ∀ w, (runT w).map (fun x => absH x.2 fun s => Yf s) = some (Ya w)) : LeftO pq view loose Xf Yf Ya 4474 := by
  intro w
  obtain ⟨x, hx, _⟩ := Option.map_eq_some_iff.mp (h w)
  have h1 := of_run (k := fun s₀ s => (fit s₀ s, (OS s).1, (OS s).2.1)) hx (look1 w)
  have h2 := of_run (k := fun _ s => (OS s).2.2) hx (look2 w)
  have h3 := of_run (k := fun _ s => Yf s) hx (h w)
  obtain ⟨a1, a2⟩ := Prod.mk.inj h1
  obtain ⟨a2, a3⟩ := Prod.mk.inj a2
  rw [run_ends hx a1]
  show some (OS x.2.abs, Yf x.2.abs) = some (OG, Ya w)
  rw [show OS x.2.abs = OG from Prod.ext a2 (Prod.ext a3 h2), h3]
theorem law_said : PySem.Challenge.rw_np0059_01.wellSaid = true := by kernel_rfl
end Mine
local macro_rules | `(tactic| o_law) => `(tactic| refine holds_law Mine.law_said fun said => ?_)
local macro_rules | `(tactic| o_head $H) => `(tactic| (
  refine holds_open (q := Mine.view) (loose := Mine.loose) (Xt := fun s => xlAt Mine.view [] s && recOk (RowW.records PySem.Challenge.rw_np0059_01.row.toRowW) s) (XP := XL Mine.view []) (Yf := Hook.obs $H) (Ya := Hook.val $H) (YP := Hook.says $H) (N := 4474) ?hl (Hook.of $H) (Hook.keeps $H) (fun s e => xl_of s (Bool.and_eq_true_iff.mp e).1) XL.keeps (by rfl) (by rfl) (by rfl) (fun s e => recFacts_of (Bool.and_eq_true_iff.mp e).2) (by rfl) (by first | assumption | decide +kernel) (by decide +kernel) ⟨rfl, rfl, rfl, rfl, rfl, by decide +kernel⟩ ?hw ?hc
  (case hl => refine Mine.left_of (Yf := Hook.obs $H) (Ya := Hook.val $H) ?_; intro w; kernel_rfl)))
open_top Mine.hd for PySem.Challenge.rw_np0059_01
end
namespace Mine
section
open PySem PySem.W PyProof.Rows PySem.Calls PySem.Spec

abbrev Led := List (Addr × Obj)

/-- what a call of one of the text's functions does, no exception -/
def CallOk (w : World) (mean : ExcName → Option Value) (mg mb : Str → Option Value) (f : Value) (args : List Value) (dn un₀ : Nat) (Pre : Led → Prop) (Post : Led → Led → Value → Prop) : Prop :=
  ∀ (dp un : Nat) (gd : Option (List Code)) (cn : Str) (cs : Scope) (a : Addr) (ccd : Value) (cl : List (Str × Addr)) (outer : List Env) (A₀ : Around) (base h₀ : Heap) (L : Addr) (m : Str → Option Value) (news : Led) (s : Shared)
    (Q E : Value → Shared → Prop),
    Below A₀ base outer h₀ → Fr h₀ L s.heap m → (Mine.hd.heap_1 w.params).In h₀ → News h₀ L s.heap news → Top Mine.view (looseW Mine.view Mine.loose) mean mg mb h₀ → cs.kind = .function → Pre news → dp + dn < recursionLimit → un + un₀ < cLine →
    (∀ r news' h' tk', Fr h₀ L h' m → News h₀ L h' news' → Post news news' r → Q r { s with heap := h', toks := tk' }) →
    wpAny (model PySem.Challenge.rw_np0059_01.row.prog w) (ktrTop dp un gd cn cs L a ccd cl outer) (call f args) Q E s

theorem CallOk.use {w : World} {mean : ExcName → Option Value} {mg mb : Str → Option Value} {f : Value} {args : List Value} {dn un₀ : Nat} {Pre : Led → Prop} {Post : Led → Led → Value → Prop} {dp un : Nat} {gd : Option (List Code)} {cn : Str} {cs : Scope} {a : Addr} {ccd : Value} {cl : List (Str × Addr)} {outer : List Env} {A₀ : Around} {base h₀ : Heap} {L : Addr} {m : Str → Option Value} {news : Led} {s : Shared}
    {Q E : Value → Shared → Prop} (C : CallOk w mean mg mb f args dn un₀ Pre Post)
    (B : Below A₀ base outer h₀) (F : Fr h₀ L s.heap m) (X : (Mine.hd.heap_1 w.params).In h₀) (N : News h₀ L s.heap news) (T : Top Mine.view (looseW Mine.view Mine.loose) mean mg mb h₀) (hk : cs.kind = .function) (hp : Pre news) (hd : dp + dn < recursionLimit) (hu : un + un₀ < cLine)
    (ret : ∀ r news' h' tk', Fr h₀ L h' m → News h₀ L h' news' → Post news news' r → Q r { s with heap := h', toks := tk' }) :
    wpAny (model PySem.Challenge.rw_np0059_01.row.prog w) (ktrTop dp un gd cn cs L a ccd cl outer) (call f args) Q E s :=
  C dp un gd cn cs a ccd cl outer A₀ base h₀ L m news s Q E B F X N T hk hp hd hu ret

def tupleOf (l : List Value) : Obj := ⟨.type "tuple", none, .seq l.toArray, #[]⟩

/-- what is still to come behind a statement, kept shut -/
def SPost (q : Flow → Shared → Prop) : Flow → Shared → Prop := q
theorem spost_of {P : Flow → Shared → Prop} {q : Flow → Shared → Prop} {f : Flow} {s : Shared} (h : ∀ f s, P f s → SPost q f s) (x : P f s) : SPost q f s := h f s x
theorem spost_next {P : Shared → Prop} {Q q : Flow → Shared → Prop} {zs : Shared} (zh : ∀ f s', (match f with | .next => P s' | f => Q f s') → SPost q f s') (zx : P zs) : SPost q .next zs := zh .next zs zx
theorem spost_brk {P : Shared → Prop} {Q q : Flow → Shared → Prop} {zs : Shared} (zh : ∀ f s', (match f with | .next => P s' | f => Q f s') → SPost q f s') (zx : Q .brk zs) : SPost q .brk zs := zh .brk zs zx
theorem spost_cont {P : Shared → Prop} {Q q : Flow → Shared → Prop} {zs : Shared} (zh : ∀ f s', (match f with | .next => P s' | f => Q f s') → SPost q f s') (zx : Q .cont zs) : SPost q .cont zs := zh .cont zs zx
theorem spost_ret {P : Shared → Prop} {Q q : Flow → Shared → Prop} {zv : Value} {zs : Shared} (zh : ∀ f s', (match f with | .next => P s' | f => Q f s') → SPost q f s') (zx : Q (.ret zv) zs) : SPost q (.ret zv) zs := zh (.ret zv) zs zx
theorem execs_shut {M : Model} {A : Around} {st : Stmt} {rest : List Stmt} {env : Env} {Q : Flow → Shared → Prop} {E : Value → Shared → Prop} {s : Shared} {h : Heap} {a : Nat}
    (H : ∀ k q, (∀ f s', (match f with | .next => wpAny M A (execs rest env) Q E s' | f => Q f s') → SPost q f s') → wpAny M A (exec st env) (SPost q) E ⟨h, s.gens, s.drawn, k, s.os⟩) :
    wpAny M A (execs (st :: rest) env) Q E ⟨h, s.gens, s.drawn, a, s.os⟩ := wpAny_execs_cons (H a _ fun _ _ x => x)
theorem execs_shut0 {M : Model} {A : Around} {st : Stmt} {rest : List Stmt} {env : Env} {Q : Flow → Shared → Prop} {E : Value → Shared → Prop} {s : Shared}
    (H : ∀ q, (∀ f s', (match f with | .next => wpAny M A (execs rest env) Q E s' | f => Q f s') → SPost q f s') → wpAny M A (exec st env) (SPost q) E s) :
    wpAny M A (execs (st :: rest) env) Q E s := wpAny_execs_cons (H _ fun _ _ x => x)
/-- a goal kept shut while the hypotheses are taken apart -/
theorem shut {P : Prop} (h : ∀ G : Prop, (P → G) → G) : P := h P id
/-- what is still to come behind a call, kept shut -/
def CPost (q : Value → Shared → Prop) : Value → Shared → Prop := q
theorem cpost_of {P : Value → Shared → Prop} {q : Value → Shared → Prop} {f : Value} {s : Shared} (h : ∀ f s, P f s → CPost q f s) (x : P f s) : CPost q f s := h f s x
theorem CallOk.useQ {w : World} {mean : ExcName → Option Value} {mg mb : Str → Option Value} {f : Value} {args : List Value} {dn un₀ : Nat} {Pre : Led → Prop} {Post : Led → Led → Value → Prop} {dp un : Nat} {gd : Option (List Code)} {cn : Str} {cs : Scope} {a : Addr} {ccd : Value} {cl : List (Str × Addr)} {outer : List Env} {A₀ : Around} {base h₀ : Heap} {L : Addr} {m : Str → Option Value} {news : Led} {h : Heap} {g : Array GenState} {d : Drawn} {k : Nat} {o : OsState}
    {Q E : Value → Shared → Prop} (C : CallOk w mean mg mb f args dn un₀ Pre Post)
    (B : Below A₀ base outer h₀) (F : Fr h₀ L h m) (X : (Mine.hd.heap_1 w.params).In h₀) (N : News h₀ L h news) (T : Top Mine.view (looseW Mine.view Mine.loose) mean mg mb h₀) (hk : cs.kind = .function) (hp : Pre news) (hd : dp + dn < recursionLimit) (hu : un + un₀ < cLine)
    (ret : ∀ q, (∀ v s', Q v s' → CPost q v s') → ∀ r news' h' tk', Fr h₀ L h' m → News h₀ L h' news' → Post news news' r → CPost q r ⟨h', g, d, tk', o⟩) :
    wpAny (model PySem.Challenge.rw_np0059_01.row.prog w) (ktrTop dp un gd cn cs L a ccd cl outer) (call f args) Q E ⟨h, g, d, k, o⟩ :=
  C dp un gd cn cs a ccd cl outer A₀ base h₀ L m news _ Q E B F X N T hk hp hd hu (fun r n' h' t' F' N' P' => ret Q (fun _ _ x => x) r n' h' t' F' N' P')
theorem execs_lit {M : Model} {A : Around} {st : Stmt} {rest : List Stmt} {env : Env} {Q : Flow → Shared → Prop} {E : Value → Shared → Prop} {h : Heap} {g : Array GenState} {d : Drawn} {a : Nat} {o : OsState}
    (H : ∀ k q, (∀ f s', (match f with | .next => wpAny M A (execs rest env) Q E s' | f => Q f s') → SPost q f s') → wpAny M A (exec st env) (SPost q) E ⟨h, g, d, k, o⟩) :
    wpAny M A (execs (st :: rest) env) Q E ⟨h, g, d, a, o⟩ := wpAny_execs_cons (H _ _ fun _ _ x => x)
end
section
open PySem PySem.W PyProof.Rows PySem.Calls PySem.Spec PyProof.V

def Stop (P : Prop) : Prop := P
theorem stop {P : Prop} (h : Stop P) : P := h
theorem go {P : Prop} (h : P) : Stop P := h
theorem memIn {a : Addr × Obj} {l : Led} (h : a ∈ l) : List.Mem a l := h

section
variable {prog : Program} {w : World} {A : Around} {E : Value → Shared → Prop} {s : Shared} {h₀ : Heap} {L D b : Addr} {m : Str → Option Value} {news news' : Led} {n n2 : Nat}

theorem pop_last {p : List Value} {y : Value} {Q : Value → Shared → Prop} (F : Fr h₀ L s.heap m) (N : News h₀ L s.heap news) (U : Upd D (listOf (p ++ [y]).toArray n) (listOf p.toArray (n + 1)) news news')
    (hz : p.length + 1 ≤ 1000000) (h : ∀ h', Fr h₀ L h' m → News h₀ L h' news' → Q y { s with heap := h' }) : wpAny (model prog w) A (call (.builtin "list.pop") [.ref D]) Q E s :=
  kl_pop F N (p := p) (y := y) (by simpa using kpa_last y p) U (by rw [sizeLine_eq]; simp; lia) h

theorem ext_any {its its2 : List Value} {g : Obj → Led} {Q : Value → Shared → Prop} (F : Fr h₀ L s.heap m) (N : News h₀ L s.heap news) (hb : (b, listOf its2.toArray n2) ∈ news)
    (U : UpdF D (listOf its.toArray n) news g) (hz : its.length + its2.length ≤ 1000000)
    (h : ∀ n' h', Fr h₀ L h' m → News h₀ L h' (g (listOf (its ++ its2).toArray n')) → Q .none { s with heap := h' }) : wpAny (model prog w) A (call (.builtin "list.extend") [.ref D, .ref b]) Q E s := by
  obtain ⟨pre, post, rfl, hg, a, c⟩ := U.split
  have z := N (D, listOf its.toArray n) (List.mem_append.mpr (.inr (.head _)))
  have hd : ¬(!its.toArray.isEmpty && Builtin.List.listTooLong (its.toArray.size + its2.toArray.size)) = true := by
    have : Builtin.List.listTooLong (its.toArray.size + its2.toArray.size) = false := by
      unfold Builtin.List.listTooLong
      rw [sizeLine_eq]
      simp
      lia
    rw [this]; simp
  refine call_meets PySem.F.slot_list_extend ⟨_, z.1, rfl⟩ PySem.F.entry_list_extend (PySem.F.args_list_extend_2 _ _) (PySem.AutoSeq1.list_extend_list_list_0 D its.toArray n b its2.toArray n2 hd (by rw [sizeLine_eq]; simp; lia) (by rw [sizeLine_eq]; simp; lia)) ⟨z.1, (N _ hb).1, ?_⟩
  by_cases he : its2 = []
  · subst he
    refine h n _ (F.change (Heap.SameBut.update ..) z.2.1 z.2.2) ?_
    rw [hg, List.append_nil]
    exact kl_turn0 (fun x => x ++ #[]) N a c (by simp) rfl
  · refine h (n + 1) _ (F.change (Heap.SameBut.update ..) z.2.1 z.2.2) ?_
    rw [hg]
    refine kl_turn _ N a c (by simp) ?_
    simp [he]
end

section
variable {prog : Program} {w : World} {A : Around} {E : Value → Shared → Prop} {s : Shared} {h₀ : Heap} {L D b : Addr} {m : Str → Option Value} {news news' : Led} {n n2 : Nat}
theorem ext_ints {its its2 : List Value} {ns2 : List Int} {g : Obj → Led} {Q : Value → Shared → Prop} (F : Fr h₀ L s.heap m) (N : News h₀ L s.heap news) (hb : (b, listOf its2.toArray n2) ∈ news)
    (U : UpdF D (listOf its.toArray n) news g) (hi : IntsAre its2 ns2) (hz : its.length + ns2.length ≤ 1000000)
    (h : ∀ n' h', Fr h₀ L h' m → News h₀ L h' (g (listOf (its ++ its2).toArray n')) → Q .none { s with heap := h' }) : wpAny (model prog w) A (call (.builtin "list.extend") [.ref D, .ref b]) Q E s :=
  ext_any F N hb U (by rw [hi.length]; exact hz) h
theorem app_any {its : List Value} {v : Value} {Q : Value → Shared → Prop} (F : Fr h₀ L s.heap m) (N : News h₀ L s.heap news)
    (U : Upd D (listOf its.toArray n) (listOf (its ++ [v]).toArray (n + 1)) news news') (hz : its.length ≤ 1000000)
    (h : ∀ h', Fr h₀ L h' m → News h₀ L h' news' → Q .none { s with heap := h' }) : wpAny (model prog w) A (call (.builtin "list.append") [.ref D, v]) Q E s := by
  refine append_K F N (its := its.toArray) (n := n) (by rw [List.push_toArray]; exact U) h ?_
  rw [sizeLine_eq]; simp; lia
end

theorem ints_last {vs : List Value} : ∀ {ns : List Int} {k : Int}, IntsAre vs (ns ++ [k]) → ∃ us t, vs = us ++ [.int k t] ∧ IntsAre us ns := by
  intro ns
  induction ns generalizing vs with
  | nil =>
    intro k h
    cases h with
    | cons k t r => cases r; exact ⟨[], t, rfl, .nil⟩
  | cons n ns ih =>
    intro k h
    cases h with
    | cons _ t r =>
      obtain ⟨us, t', rfl, h'⟩ := ih r
      exact ⟨.int n t :: us, t', rfl, .cons _ _ h'⟩

def WEnd {σ : Type} (h₀ : Heap) (L : Addr) (s : Shared) (Ld : σ → Led) (stored : List Str) (m₀ : Str → Option Value) (P : σ → Prop) (μ : σ → Nat) (c : σ) (s₂ : Shared) : Prop :=
  ∃ (c' : σ) (h' : Heap) (tk : Nat) (m' : Str → Option Value) (news' : Led), s₂ = { s with heap := h', toks := tk } ∧ Fr h₀ L h' m' ∧ News h₀ L h' news' ∧ (∀ p ∈ Ld c', p ∈ news') ∧ (∀ z, stored.contains z = false → m' z = m₀ z) ∧ P c' ∧ μ c' < μ c
def WPost {σ : Type} (h₀ : Heap) (L : Addr) (s : Shared) (Ld : σ → Led) (stored : List Str) (m₀ : Str → Option Value) (P : σ → Prop) (μ : σ → Nat) (Q : Flow → Shared → Prop) (c : σ) (f : Flow) (s₂ : Shared) : Prop :=
  match f with
  | .ret v => Q (.ret v) s₂
  | .brk => Q .next s₂
  | _ => WEnd h₀ L s Ld stored m₀ P μ c s₂
section
variable {prog : Program} {w : World} {A : Around} {E : Value → Shared → Prop} {Q : Flow → Shared → Prop} {s : Shared} {env : Env} {h₀ : Heap} {L : Addr}
/-- a while by an invariant over a state of one's own, the ledger told by it -/
theorem while_by {σ : Type} {test : Expr} {body : List Stmt} {pos : Pos} {m₀ : Str → Option Value} (Ld : σ → Led) (stored : List Str) (P : σ → Prop) (μ : σ → Nat) (c₀ : σ)
    (F : Fr h₀ L s.heap m₀) (N : News h₀ L s.heap (Ld c₀)) (hp : P c₀)
    (turn : ∀ (c : σ) (u : Str → Option Value) h tk, P c → Fr h₀ L h (fun z => if stored.contains z then u z else m₀ z) → News h₀ L h (Ld c) →
      wpAny (model prog w) A (isTrue test env (eval test env)) (fun b s₂ =>
        if b = true then wpAny (model prog w) A (execs body env) (WPost h₀ L s Ld stored m₀ P μ Q c) E s₂ else Q .next s₂) E { s with heap := h, toks := tk })
    (hE : PassesOwn (model prog w) A env E := by passes_own) :
    wpAny (model prog w) A (exec (.While test body [] pos) env) Q E s := by
  refine While_inv2 (fun n m nx => ∃ c : σ, nx = Ld c ∧ μ c = n ∧ (∀ z, stored.contains z = false → m z = m₀ z) ∧ P c) F N ⟨c₀, rfl, rfl, fun _ _ => rfl, hp⟩ ?_ hE
  rintro n m₁ nx h tk F₁ N₁ ⟨c, hnx, hsz, h2, hp'⟩
  rw [hnx] at N₁
  rw [← hsz]
  have em : (fun z => if stored.contains z then m₁ z else m₀ z) = m₁ := by
    funext z
    cases h3 : stored.contains z with
    | true => simp
    | false => simp only [Bool.false_eq_true, if_false]; exact (h2 z h3).symm
  refine wpAny_mono (turn c m₁ h tk hp' (by rw [em]; exact F₁) N₁) (fun b s₂ p => ?_) fun _ _ x => x
  cases b with
  | false => simpa using p
  | true =>
    simp only [if_true] at p ⊢
    refine wpAny_mono p (fun f s₃ q => ?_) fun _ _ x => x
    cases f with
    | ret v => exact q
    | brk => exact q
    | next =>
      obtain ⟨c', h', tk', m', news', rfl, F', N', hn, hr9, hp9, hm9⟩ := q
      exact ⟨h', tk', m', Ld c', μ c', rfl, F', fun p hp => N' p (hn p hp), hm9, c', rfl, rfl, hr9, hp9⟩
    | cont =>
      obtain ⟨c', h', tk', m', news', rfl, F', N', hn, hr9, hp9, hm9⟩ := q
      exact ⟨h', tk', m', Ld c', μ c', rfl, F', fun p hp => N' p (hn p hp), hm9, c', rfl, rfl, hr9, hp9⟩
theorem while_end {σ : Type} {s : Shared} {Ld : σ → Led} {stored : List Str} {m₀ m' : Str → Option Value} {P : σ → Prop} {μ : σ → Nat} {c : σ} {h' : Heap} {tk : Nat} {news' : Led} (c' : σ)
    (F : Fr h₀ L h' m') (N : News h₀ L h' news') (hn : ∀ p ∈ Ld c', p ∈ news') (hr : ∀ z, stored.contains z = false → m' z = m₀ z) (hp : P c') (hm : μ c' < μ c) :
    WEnd h₀ L s Ld stored m₀ P μ c { s with heap := h', toks := tk } := ⟨c', h', tk, m', news', rfl, F, N, hn, hr, hp, hm⟩
end

def FEnd {σ : Type} (h₀ : Heap) (L : Addr) (I : Addr) (oi : Obj) (Ld : σ → Led) (stored : List Str) (m₀ : Str → Option Value) (P : σ → Prop) (s s₂ : Shared) : Prop :=
  ∃ (c' : σ) (h' : Heap) (tk : Nat) (m' : Str → Option Value) (news' : Led), s₂ = { s with heap := h', toks := tk } ∧ Fr h₀ L h' m' ∧ News h₀ L h' news' ∧ (I, oi) ∈ news' ∧ (∀ p ∈ Ld c', p ∈ news') ∧ (∀ p ∈ Ld c', p.1 ≠ I) ∧ (∀ z, stored.contains z = false → m' z = m₀ z) ∧ P c'
def FPost {σ : Type} (h₀ : Heap) (L : Addr) (I : Addr) (oi : Obj) (Ld : σ → Led) (stored : List Str) (m₀ : Str → Option Value) (P : σ → Prop) (s : Shared) (Q : Flow → Shared → Prop) (f : Flow) (s₂ : Shared) : Prop :=
  match f with
  | .ret v => Q (.ret v) s₂
  | .brk => Q .next s₂
  | _ => FEnd h₀ L I oi Ld stored m₀ P s s₂
section
variable {prog : Program} {w : World} {A : Around} {E : Value → Shared → Prop} {Q : Flow → Shared → Prop} {s : Shared} {env : Env} {h₀ : Heap} {x : Str} {body : List Stmt}
theorem fend_intro {σ : Type} {L I : Addr} {oi : Obj} {s : Shared} {Ld : σ → Led} {stored : List Str} {m₀ m' : Str → Option Value} {P : σ → Prop} {h' : Heap} {tk : Nat} {news' : Led} (c' : σ)
    (F : Fr h₀ L h' m') (N : News h₀ L h' news') (hI : (I, oi) ∈ news') (hn : ∀ p ∈ Ld c', p ∈ news') (hne : ∀ p ∈ Ld c', p.1 ≠ I) (hr : ∀ z, stored.contains z = false → m' z = m₀ z) (hp : P c') :
    FEnd h₀ L I oi Ld stored m₀ P s { s with heap := h', toks := tk } := ⟨c', h', tk, m', news', rfl, F, N, hI, hn, hne, hr, hp⟩

theorem fr_stored {h : Heap} {L : Addr} {stored : List Str} {m₀ m₁ : Str → Option Value} (h2 : ∀ z, stored.contains z = false → m₁ z = m₀ z) (F : Fr h₀ L h m₁) : Fr h₀ L h (fun z => if stored.contains z then m₁ z else m₀ z) := by
  have em : (fun z => if stored.contains z then m₁ z else m₀ z) = m₁ := by
    funext z
    cases h3 : stored.contains z with
    | true => simp
    | false => simp only [Bool.false_eq_true, if_false]; exact (h2 z h3).symm
  rw [em]; exact F
theorem fr_turn {h : Heap} {L : Addr} {stored : List Str} {v : Value} {m₀ m₁ : Str → Option Value} (h2 : ∀ z, (x :: stored).contains z = false → m₁ z = m₀ z) (F : Fr h₀ L h (fun y => if y = x then some v else m₁ y)) :
    Fr h₀ L h (fun z => if z = x then some v else if stored.contains z then m₁ z else m₀ z) := by
  have em : (fun z => if z = x then some v else if stored.contains z then m₁ z else m₀ z) = fun y => if y = x then some v else m₁ y := by
    funext z
    by_cases hx : z = x
    · simp [hx]
    · simp only [if_neg hx]
      cases h3 : stored.contains z with
      | true => simp
      | false =>
        simp only [Bool.false_eq_true, if_false]
        refine (h2 z ?_).symm
        rw [List.contains_cons, h3]
        simp [hx]
  rw [em]; exact F

/-- a for over a list of the ledger, by an invariant over a state of one's own -/
theorem for_list {σ : Type} {l : Addr} {vs : List Value} {nn : Nat} {m₀ : Str → Option Value} (Ld : σ → Led) (stored : List Str) (P : Nat → σ → Prop) (c₀ : σ)
    (hh : A.handled = none) (hl : ∀ i c, P i c → (l, listOf vs.toArray nn) ∈ Ld c) (F : Fr h₀ env.locals s.heap m₀) (N : News h₀ env.locals s.heap (Ld c₀)) (hp : P 0 c₀)
    (turn : ∀ i v I oi c (u : Str → Option Value) h tk, vs[i]? = some v → P i c → (∀ p ∈ Ld c, p.1 ≠ I) → Fr h₀ env.locals h (fun y => if y = x then some v else if stored.contains y then u y else m₀ y) → News h₀ env.locals h ((I, oi) :: Ld c) →
      wpAny (model prog w) A (execs body env) (FPost h₀ env.locals I oi Ld (x :: stored) m₀ (P (i + 1)) { s with heap := h, toks := tk } Q) E { s with heap := h, toks := tk })
    (done : ∀ c (u : Str → Option Value) h tk, P vs.length c → Fr h₀ env.locals h (fun y => if (x :: stored).contains y then u y else m₀ y) → News h₀ env.locals h (Ld c) → Q .next { s with heap := h, toks := tk }) :
    wpAny (model prog w) A (pyIter (.ref l)) (fun it s₂ => LoopAtV prog w A h₀ env x body Q E it s₂) E s := by
  have hol : s.heap.get? l = some (listOf vs.toArray nn) := (N _ (hl _ _ hp)).1
  have hls : s.heap.IsList l vs.toArray := ⟨_, hol, rfl, nn, rfl⟩
  have hne : l ≠ s.heap.objs.size := Nat.ne_of_lt (Heap.lt_size hol)
  refine wpAny_pyIter_list hls ?_
  have W := Walks.list (prog := prog) (w := w) hh s.heap.objs.size l hne vs.toArray
  have hlen : vs.toArray.size = vs.length := by simp
  rw [hlen] at W
  refine ⟨_, _, _, vs.length, _, _, m₀, Ld c₀, (fun i m nx => ∃ c, nx = Ld c ∧ P i c ∧ ∀ z, (x :: stored).contains z = false → m z = m₀ z), rfl, W, ?_, ?_, ?_, ⟨⟨_, Heap.get?_push_size _ rfl, rfl, rfl⟩, hls.at fun o e => Heap.get?_push_of_some _ e⟩, F.push _, (fun p hp => ⟨Heap.get?_push_of_some _ (N p hp).1, (N p hp).2⟩), ⟨c₀, rfl, hp, fun _ _ => rfl⟩, ?_, ?_⟩
  · intro hm
    rcases List.mem_cons.mp hm with e | hm
    · exact absurd F.ns.lt (e ▸ Nat.lt_irrefl _)
    · exact (N _ (hl _ _ hp)).2.1 ((List.mem_singleton.mp hm).symm)
  · intro b hb
    rw [List.mem_singleton.mp hb]
    exact next_is_new F
  · intro p hp hI
    exact absurd (Heap.lt_size (N p hp).1) ((List.mem_singleton.mp hI) ▸ Nat.lt_irrefl _)
  · rintro i v m₁ news₁ s₁ own ⟨hh', tk', rfl⟩ hin hP ⟨c, rfl, hpc, hm⟩ hoff hown hget hfp hst F₁ N₁
    have hI0 : h₀.get? s.heap.objs.size = none := next_is_new F
    obtain ⟨⟨oi, hoi, _⟩, _⟩ := hst
    have hmI : (s.heap.objs.size, oi) ∈ own := hfp _ (.head _) hI0 oi hoi
    have hneI : ∀ p ∈ Ld c, p.1 ≠ s.heap.objs.size := fun p hp e => hoff p hp (by rw [e]; exact List.mem_singleton.mpr rfl)
    have hv : vs[i]? = some v := by simpa using hP
    have N₂ : News h₀ env.locals hh' ((s.heap.objs.size, oi) :: Ld c) := fun p hp => by
      rcases List.mem_cons.mp hp with rfl | hp
      · exact N₁ _ (List.mem_append_left _ hmI)
      · exact N₁ _ (List.mem_append_right _ hp)
    refine wpAny_mono (turn i v _ oi c m₁ hh' tk' hv hpc hneI (fr_turn hm F₁) N₂) (fun f s₂ p => ?_) fun _ _ e => e
    have fin : FEnd h₀ env.locals s.heap.objs.size oi Ld (x :: stored) m₀ (P (i + 1)) { s with heap := hh', toks := tk' } s₂ →
        LoopStepU h₀ env.locals [s.heap.objs.size] own (fun m nx => ∃ c, nx = Ld c ∧ P (i + 1) c ∧ ∀ z, (x :: stored).contains z = false → m z = m₀ z) { s with heap := hh', toks := tk' } .next s₂ := by
      rintro ⟨c', h', tk, m', news', e, F', N', hI, hn, hne', hr, hp'⟩
      refine ⟨rfl, h', tk, m', Ld c', e, F', fun p hp => ?_, fun p hp hI => hne' p hp (List.mem_singleton.mp hI), c', rfl, hp', hr⟩
      rcases List.mem_append.mp hp with h | h
      · rcases List.mem_cons.mp (hown p h) with h2 | h2
        · have h3 : hh'.get? p.1 = some p.2 := hget p h
          have h5 : hh'.get? p.1 = some oi := by rw [h2]; exact hoi
          rw [h5] at h3
          have h4 : p = (s.heap.objs.size, oi) := Prod.ext h2 (Option.some.inj h3).symm
          rw [h4]; exact N' _ hI
        · have h1 : p.1 = l := List.mem_singleton.mp h2
          have h3 : hh'.get? p.1 = some p.2 := hget p h
          have hlo : hh'.get? p.1 = some (listOf vs.toArray nn) := by rw [h1]; exact (N₁ _ (List.mem_append_right _ (hl _ _ hpc))).1
          rw [hlo] at h3
          have h4 : p = (l, listOf vs.toArray nn) := Prod.ext h1 (Option.some.inj h3).symm
          rw [h4]; exact N' _ (hn _ (hl _ _ hp'))
      · exact N' p (hn p h)
    cases f with
    | ret v => exact .ret p
    | brk => exact .brk p
    | next => exact .next (fin p)
    | cont => exact .cont (fin p)
  · rintro h' tk m' news' F' N' _ ⟨c, rfl, hpc, hm⟩
    exact done c m' h' tk hpc (fr_stored hm F') N'

/-- a for over a range by ones -/
theorem for_range {σ : Type} {r : Addr} {a₀ b₀ : Int} {t₀ u₀ v₀ : Tok} {n : Nat} {m₀ : Str → Option Value} (Ld : σ → Led) (stored : List Str) (P : Nat → σ → Prop) (c₀ : σ)
    (hh : A.handled = none) (hr : IsRange s.heap r a₀ b₀ 1 t₀ u₀ v₀) (hsmall : Builtin.Range.small a₀ b₀ 1 = true) (hn : Builtin.Range.rangeSize a₀ b₀ 1 = (n : Int)) (F : Fr h₀ env.locals s.heap m₀) (N : News h₀ env.locals s.heap (Ld c₀)) (hp : P 0 c₀)
    (turn : ∀ i t I oi c (u : Str → Option Value) h tk, i < n → P i c → (∀ p ∈ Ld c, p.1 ≠ I) → Fr h₀ env.locals h (fun y => if y = x then some (.int (a₀ + (i : Int)) t) else if stored.contains y then u y else m₀ y) → News h₀ env.locals h ((I, oi) :: Ld c) →
      wpAny (model prog w) A (execs body env) (FPost h₀ env.locals I oi Ld (x :: stored) m₀ (P (i + 1)) { s with heap := h, toks := tk } Q) E { s with heap := h, toks := tk })
    (done : ∀ c (u : Str → Option Value) h tk, P n c → Fr h₀ env.locals h (fun y => if (x :: stored).contains y then u y else m₀ y) → News h₀ env.locals h (Ld c) → Q .next { s with heap := h, toks := tk }) :
    wpAny (model prog w) A (pyIter (.ref r)) (fun it s₂ => LoopAtV prog w A h₀ env x body Q E it s₂) E s := by
  refine wpAny_pyIter_range hr hsmall ?_
  have W : Walks prog w A s.heap.objs.size [s.heap.objs.size] [s.heap.objs.size] n (fun i v => i < n ∧ ∃ t, v = .int (a₀ + i * 1) t)
      (fun i h => IsRangeIter h s.heap.objs.size (a₀ + (i : Nat) * 1) ((n : Int) - (i : Nat)) 1) := (Walks.range hh _ a₀ 1 n).bound
  refine ⟨_, _, _, n, _, _, m₀, Ld c₀, (fun i m nx => ∃ c, nx = Ld c ∧ P i c ∧ ∀ z, (x :: stored).contains z = false → m z = m₀ z), rfl, W, ?_, ?_, ?_, (by show IsRangeIter _ _ _ _ _; rw [hn]; simpa using Heap.get?_push_size _ rfl), F.push _, (fun p hp => ⟨Heap.get?_push_of_some _ (N p hp).1, (N p hp).2⟩), ⟨c₀, rfl, hp, fun _ _ => rfl⟩, ?_, ?_⟩
  · intro hm
    exact absurd F.ns.lt ((List.mem_singleton.mp hm) ▸ Nat.lt_irrefl _)
  · intro b hb
    rw [List.mem_singleton.mp hb]
    exact next_is_new F
  · intro p hp hI
    exact absurd (Heap.lt_size (N p hp).1) ((List.mem_singleton.mp hI) ▸ Nat.lt_irrefl _)
  · rintro i v m₁ news₁ s₁ own ⟨hh', tk', rfl⟩ hin hP ⟨c, rfl, hpc, hm⟩ hoff hown hget hfp hst F₁ N₁
    have hI0 : h₀.get? s.heap.objs.size = none := next_is_new F
    obtain ⟨oi, hoi⟩ : ∃ oi, hh'.get? s.heap.objs.size = some oi := ⟨_, hst⟩
    have hmI : (s.heap.objs.size, oi) ∈ own := hfp _ (.head _) hI0 oi hoi
    have hneI : ∀ p ∈ Ld c, p.1 ≠ s.heap.objs.size := fun p hp e => hoff p hp (by rw [e]; exact List.mem_singleton.mpr rfl)
    obtain ⟨_, t, rfl⟩ := hP
    have e1 : a₀ + (i : Int) * 1 = a₀ + (i : Int) := by lia
    rw [e1] at F₁
    have N₂ : News h₀ env.locals hh' ((s.heap.objs.size, oi) :: Ld c) := fun p hp => by
      rcases List.mem_cons.mp hp with rfl | hp
      · exact N₁ _ (List.mem_append_left _ hmI)
      · exact N₁ _ (List.mem_append_right _ hp)
    refine wpAny_mono (turn i t _ oi c m₁ hh' tk' hin hpc hneI (fr_turn hm F₁) N₂) (fun f s₂ p => ?_) fun _ _ e => e
    have fin : FEnd h₀ env.locals s.heap.objs.size oi Ld (x :: stored) m₀ (P (i + 1)) { s with heap := hh', toks := tk' } s₂ →
        LoopStepU h₀ env.locals [s.heap.objs.size] own (fun m nx => ∃ c, nx = Ld c ∧ P (i + 1) c ∧ ∀ z, (x :: stored).contains z = false → m z = m₀ z) { s with heap := hh', toks := tk' } .next s₂ := by
      rintro ⟨c', h', tk, m', news', e, F', N', hI, hn, hne', hr, hp'⟩
      refine ⟨rfl, h', tk, m', Ld c', e, F', fun p hp => ?_, fun p hp hI => hne' p hp (List.mem_singleton.mp hI), c', rfl, hp', hr⟩
      rcases List.mem_append.mp hp with h | h
      · have h2 : p.1 = s.heap.objs.size := List.mem_singleton.mp (hown p h)
        have h3 : hh'.get? p.1 = some p.2 := hget p h
        have h5 : hh'.get? p.1 = some oi := by rw [h2]; exact hoi
        rw [h5] at h3
        have h4 : p = (s.heap.objs.size, oi) := Prod.ext h2 (Option.some.inj h3).symm
        rw [h4]; exact N' _ hI
      · exact N' p (hn p h)
    cases f with
    | ret v => exact .ret p
    | brk => exact .brk p
    | next => exact .next (fin p)
    | cont => exact .cont (fin p)
  · rintro h' tk m' news' F' N' _ ⟨c, rfl, hpc, hm⟩
    exact done c m' h' tk hpc (fr_stored hm F') N'
end
theorem News.sub {h₀ h : Heap} {L : Addr} {l l' : Led} (N : News h₀ L h l) (hs : ∀ p ∈ l', p ∈ l) : News h₀ L h l' := fun p hp => N p (hs p hp)
theorem sub_nil {l : Led} : ∀ p ∈ l, p ∈ l := fun _ h => h
theorem sub_tail {q : Addr × Obj} {l l' : Led} (h : ∀ p ∈ l, p ∈ l') : ∀ p ∈ l, p ∈ q :: l' := fun p hp => .tail _ (h p hp)
theorem sub_cons {q : Addr × Obj} {l l' : Led} (h1 : q ∈ l') (h : ∀ p ∈ l, p ∈ l') : ∀ p ∈ q :: l, p ∈ l' := fun p hp => by
  rcases List.mem_cons.mp hp with rfl | hp
  · exact h1
  · exact h p hp
end
section
open PySem PySem.W PyProof.Rows PySem.Calls PySem.Spec PyProof.V
section
variable {prog : Program} {w : World} {A : Around} {E : Value → Shared → Prop} {s : Shared} {h₀ : Heap} {L D b : Addr} {m : Str → Option Value} {news news' : Led} {n n2 : Nat}
theorem ix_ints {vs : List Value} {ns : List Int} {k : Int} {t : Tok} {i : Nat} {Q : Value → Shared → Prop} (N : News h₀ L s.heap news) (hm : (D, listOf vs.toArray n) ∈ news) (hi : IntsAre vs ns)
    (hk : ns[i]? = some k) (hnd : ns.Nodup) (hz : ns.length ≤ 1000000) (h : Q (.int (i : Int) s.toks) { s with toks := s.toks + 1 }) :
    wpAny (model prog w) A (call (.builtin "list.index") [.ref D, .int k t]) Q E s := by
  have ho := (N _ hm).1
  have hlen := hi.length
  have hlt : i < ns.length := by
    by_cases h : i < ns.length
    · exact h
    · rw [List.getElem?_eq_none (by lia)] at hk; cases hk
  have hik : ns[i] = k := by rw [List.getElem?_eq_getElem hlt] at hk; exact Option.some.inj hk
  refine call_meets PySem.F.slot_list_index ⟨_, ho, rfl⟩ PySem.F.entry_list_index (PySem.F.args_list_index_2 _ _)
    (MeetsSeq.list_index D vs.toArray n (.int k t) (isInt k) (fun y hy => ?_) i (by simpa [hlen] using hlt) (by lia) ?_ ?_) ⟨ho, h⟩
  · obtain ⟨j, hj, rfl⟩ := List.getElem_of_mem (by simpa using hy : y ∈ vs)
    obtain ⟨u, hv⟩ := hi.get j (ns[j]'(by lia)) (by rw [List.getElem?_eq_getElem])
    rw [List.getElem?_eq_getElem hj] at hv
    rw [Option.some.inj hv]
    exact MeetsSeq.EqGives.int _ k u t
  · show isInt k vs[i] = true
    rw [isInt_at k hi _ (by lia) hlt]
    simpa using hik
  · intro j hjs hlt'
    have hj : j < ns.length := by lia
    show isInt k vs[j] = false
    rw [isInt_at k hi j (by simpa using hjs) hj]
    simp only [beq_eq_false_iff_ne, ne_eq]
    intro e
    have h9 := List.pairwise_iff_getElem.mp hnd j i hj hlt hlt'
    exact h9 (by rw [e, hik])

theorem get_at {vs : List Value} {ns : List Int} {k x : Int} {t : Tok} {Q : Value → Shared → Prop} (N : News h₀ L s.heap news) (hm : (D, listOf vs.toArray n) ∈ news) (hi : IntsAre vs ns)
    (h0 : 0 ≤ k) (hx : ns[k.toNat]? = some x) (hz : ns.length ≤ 1000000) (h : ∀ u, Q (.int x u) s) : wpAny (model prog w) A (getItem (.ref D) (.int k t)) Q E s := by
  have hlt : k.toNat < ns.length := by
    by_cases h : k.toNat < ns.length
    · exact h
    · rw [List.getElem?_eq_none (by lia)] at hx; cases hx
  obtain ⟨u, hv⟩ := hi.get k.toNat x hx
  exact wpAny_getItem_list ⟨_, (N _ hm).1, rfl, _, rfl⟩ h0 (by lia) (by simpa using hv) (h u)
theorem get_back {vs : List Value} {ns : List Int} {k x : Int} {t : Tok} {Q : Value → Shared → Prop} (N : News h₀ L s.heap news) (hm : (D, listOf vs.toArray n) ∈ news) (hi : IntsAre vs ns)
    (h0 : k < 0) (h1 : -(ns.length : Int) ≤ k) (hx : ns[(k + ns.length).toNat]? = some x) (hz : ns.length ≤ 1000000) (h : ∀ u, Q (.int x u) s) : wpAny (model prog w) A (getItem (.ref D) (.int k t)) Q E s := by
  obtain ⟨u, hv⟩ := hi.get _ x hx
  have hl := hi.length
  exact wpAny_getItem_list_neg ⟨_, (N _ hm).1, rfl, _, rfl⟩ h0 (by simp [hl]; lia) (by lia) (by simpa [hl] using hv) (h u)
theorem get_tail {its : Array Value} {k : Int} {t : Tok} {value slice : Expr} {Q : Value → Shared → Prop} (N : News h₀ L s.heap news) (hm : (D, listOf its n) ∈ news)
    (h : wpAny (model prog w) A (getItem (.ref D) (.int k t)) Q E s)
    (hs : subscripted slice false (.ref D) (.int k t) = operate [.ref D, .int k t] (getItem (.ref D) (.int k t)) := by with_unfolding_all rfl) :
    wpAny (model prog w) A (subscriptTail value slice (.ref D) (.int k t)) Q E s :=
  tail_any ⟨_, (N _ hm).1, rfl⟩ slot_list_getitem.lookup h hs
theorem len_ints {vs : List Value} {ns : List Int} {Q : Value → Shared → Prop} (N : News h₀ L s.heap news) (hm : (D, listOf vs.toArray n) ∈ news) (hi : IntsAre vs ns) (hz : ns.length ≤ 1000000)
    (h : Q (.int (ns.length : Nat) (s.toks + 1)) { s with toks := s.toks + 1 + 1 }) : wpAny (model prog w) A (call (.builtin "len") [.ref D]) Q E s :=
  KM.len_K N hm (by simpa using hi.length) (by lia) h
end
end
section
open PySem PySem.W PyProof.Rows PySem.Calls PySem.Spec PyProof.V

def upd {β : Type} (f : Int → β) (n : Int) (v : β) : Int → β := fun m => if m = n then v else f m
theorem upd_same {β : Type} (f : Int → β) (n : Int) (v : β) : upd f n v n = v := if_pos rfl
theorem upd_ne {β : Type} (f : Int → β) {n m : Int} (v : β) (h : m ≠ n) : upd f n v m = f m := if_neg h
theorem upd_id {β : Type} (f : Int → β) (n : Int) : upd f n (f n) = f := funext fun m => by unfold upd; split <;> simp_all

structure WR where
  c : Addr
  sort : Int
  parent : Int
  left : Int
  top : Int
  width : Int
  height : Int
  kids : List Int
structure AD where
  x : Addr
  d : Addr
structure TS where
  x : Addr
  d : Addr
  w : Addr
  last : Int
  root : Int
  selected : Int
  dom : List Int
  A : Int → AD
  W : Int → WR
  ex : Led
structure Jk where
  k : Nat → Tok
  t : Nat → Tok
  b : Nat → Int
  e : Addr
  l : Addr
  n : Nat

def winD (P : Params) (n : Int) (r : WR) (j : Jk) : List DictEntry :=
  [⟨PyData.keyHash P (Str.ofString "number"), .str (Str.ofString "number") (j.k 0), .int n (j.t 0)⟩,
   ⟨PyData.keyHash P (Str.ofString "sort"), .str (Str.ofString "sort") (j.k 1), .int r.sort (j.t 1)⟩,
   ⟨PyData.keyHash P (Str.ofString "parent"), .str (Str.ofString "parent") (j.k 2), .int r.parent (j.t 2)⟩,
   ⟨PyData.keyHash P (Str.ofString "children"), .str (Str.ofString "children") (j.k 3), .ref r.c⟩,
   ⟨PyData.keyHash P (Str.ofString "left"), .str (Str.ofString "left") (j.k 4), .int r.left (j.t 4)⟩,
   ⟨PyData.keyHash P (Str.ofString "top"), .str (Str.ofString "top") (j.k 5), .int r.top (j.t 5)⟩,
   ⟨PyData.keyHash P (Str.ofString "width"), .str (Str.ofString "width") (j.k 6), .int r.width (j.t 6)⟩,
   ⟨PyData.keyHash P (Str.ofString "height"), .str (Str.ofString "height") (j.k 7), .int r.height (j.t 7)⟩,
   ⟨PyData.keyHash P (Str.ofString "buffer"), .str (Str.ofString "buffer") (j.k 8), .int (j.b 8) (j.t 8)⟩,
   ⟨PyData.keyHash P (Str.ofString "start"), .str (Str.ofString "start") (j.k 9), .int (j.b 9) (j.t 9)⟩,
   ⟨PyData.keyHash P (Str.ofString "point"), .str (Str.ofString "point") (j.k 10), .int (j.b 10) (j.t 10)⟩,
   ⟨PyData.keyHash P (Str.ofString "hscroll"), .str (Str.ofString "hscroll") (j.k 11), .int (j.b 11) (j.t 11)⟩,
   ⟨PyData.keyHash P (Str.ofString "is_dedicated"), .str (Str.ofString "is_dedicated") (j.k 12), .bool false⟩,
   ⟨PyData.keyHash P (Str.ofString "use_time"), .str (Str.ofString "use_time") (j.k 13), .int (j.b 13) (j.t 13)⟩,
   ⟨PyData.keyHash P (Str.ofString "earlier"), .str (Str.ofString "earlier") (j.k 14), .ref j.e⟩,
   ⟨PyData.keyHash P (Str.ofString "later"), .str (Str.ofString "later") (j.k 15), .ref j.l⟩]

def treeD (P : Params) (S : TS) (j : Jk) : List DictEntry :=
  [⟨PyData.keyHash P (Str.ofString "windows"), .str (Str.ofString "windows") (j.k 0), .ref S.w⟩,
   ⟨PyData.keyHash P (Str.ofString "last"), .str (Str.ofString "last") (j.k 1), .int S.last (j.t 1)⟩,
   ⟨PyData.keyHash P (Str.ofString "clock"), .str (Str.ofString "clock") (j.k 2), .int (j.b 2) (j.t 2)⟩,
   ⟨PyData.keyHash P (Str.ofString "least_width"), .str (Str.ofString "least_width") (j.k 3), .int 3 (j.t 3)⟩,
   ⟨PyData.keyHash P (Str.ofString "least_height"), .str (Str.ofString "least_height") (j.k 4), .int 2 (j.t 4)⟩,
   ⟨PyData.keyHash P (Str.ofString "root"), .str (Str.ofString "root") (j.k 5), .int S.root (j.t 5)⟩,
   ⟨PyData.keyHash P (Str.ofString "selected"), .str (Str.ofString "selected") (j.k 6), .int S.selected (j.t 6)⟩]

abbrev ik (w : World) : KeyKind PySem.Challenge.rw_np0059_01.row.prog w Int := PySem.intKind PySem.Challenge.rw_np0059_01.row.prog w

def DirOk (S : TS) (kvs : List (Int × Value)) : Prop := ∀ n ∈ S.dom, valueAt kvs n = some (.ref (S.A n).x)
def EarlyAt (news : Led) (j : Jk) : Prop := ∃ k, (j.e, listOf #[] k) ∈ news

structure TreeTag (w : World) (news : Led) (S : TS) (tag : Addr → Nat × Int) : Prop where
  tx : (S.x, instObj 164 S.d) ∈ news
  td : ∃ j : Jk, (S.d, dictOf (treeD w.params S j) j.n) ∈ news
  tw : ∃ wo kvs, (S.w, wo) ∈ news ∧ wo.IsDictOf (ik w) kvs ∧ kvs.length ≤ S.dom.length ∧ DirOk S kvs
  lo : (S.w == sysModules) = false
  wx : ∀ n ∈ S.dom, ((S.A n).x, instObj 93 (S.A n).d) ∈ news
  wd : ∀ n ∈ S.dom, ∃ j : Jk, ((S.A n).d, dictOf (winD w.params n (S.W n) j) j.n) ∈ news ∧ EarlyAt news j ∧ tag j.e = (6, n)
  wc : ∀ n ∈ S.dom, ∃ vs k, ((S.W n).c, listOf vs.toArray k) ∈ news ∧ IntsAre vs (S.W n).kids
  ex : ∀ p ∈ S.ex, p ∈ news
  g0 : tag S.x = (0, 0) ∧ tag S.d = (1, 0) ∧ tag S.w = (2, 0)
  gx : ∀ n ∈ S.dom, tag (S.A n).x = (3, n) ∧ tag (S.A n).d = (4, n) ∧ tag (S.W n).c = (5, n)
  ge : ∀ p ∈ S.ex, (tag p.1).1 = 7
  sz : S.dom.length ≤ 1000
def TreeIn (w : World) (news : Led) (S : TS) : Prop := ∃ tag, TreeTag w news S tag

theorem tag_ne {tag : Addr → Nat × Int} {a b : Addr} {x y : Nat × Int} (ha : tag a = x) (hb : tag b = y) (h : x ≠ y) : a ≠ b := fun e => h (by rw [← ha, ← hb, e])
theorem tag_ne1 {tag : Addr → Nat × Int} {a b : Addr} {x : Nat × Int} {k : Nat} (ha : tag a = x) (hb : (tag b).1 = k) (h : x.1 ≠ k) : a ≠ b := fun e => h (by rw [← hb, ← ha, e])

theorem TreeTag.mono {w : World} {l l' : Led} {S : TS} {tag : Addr → Nat × Int} (H : TreeTag w l S tag) (hs : ∀ p ∈ l, p ∈ l') : TreeTag w l' S tag :=
  ⟨hs _ H.tx, let ⟨j, h⟩ := H.td; ⟨j, hs _ h⟩, let ⟨o, k, h, r⟩ := H.tw; ⟨o, k, hs _ h, r⟩, H.lo, fun n h => hs _ (H.wx n h),
   fun n h => let ⟨j, a, ⟨k, b⟩, c⟩ := H.wd n h; ⟨j, hs _ a, ⟨k, hs _ b⟩, c⟩, fun n h => let ⟨vs, k, a, b⟩ := H.wc n h; ⟨vs, k, hs _ a, b⟩,
   fun p h => hs _ (H.ex p h), H.g0, H.gx, H.ge, H.sz⟩
theorem TreeIn.mono {w : World} {l l' : Led} {S : TS} (H : TreeIn w l S) (hs : ∀ p ∈ l, p ∈ l') : TreeIn w l' S := let ⟨t, h⟩ := H; ⟨t, h.mono hs⟩

-- reading
theorem TreeIn.tx {w : World} {l : Led} {S : TS} (H : TreeIn w l S) : (S.x, instObj 164 S.d) ∈ l := H.elim fun _ h => h.tx
theorem TreeIn.td {w : World} {l : Led} {S : TS} (H : TreeIn w l S) : ∃ j : Jk, (S.d, dictOf (treeD w.params S j) j.n) ∈ l := H.elim fun _ h => h.td
theorem TreeIn.tw {w : World} {l : Led} {S : TS} (H : TreeIn w l S) : ∃ wo kvs, (S.w, wo) ∈ l ∧ wo.IsDictOf (ik w) kvs ∧ kvs.length ≤ S.dom.length ∧ DirOk S kvs := H.elim fun _ h => h.tw
theorem TreeIn.lo {w : World} {l : Led} {S : TS} (H : TreeIn w l S) : (S.w == sysModules) = false := H.elim fun _ h => h.lo
theorem TreeIn.wx {w : World} {l : Led} {S : TS} (H : TreeIn w l S) {n : Int} (h : n ∈ S.dom) : ((S.A n).x, instObj 93 (S.A n).d) ∈ l := H.elim fun _ H => H.wx n h
theorem TreeIn.wd {w : World} {l : Led} {S : TS} (H : TreeIn w l S) {n : Int} (h : n ∈ S.dom) : ∃ j : Jk, ((S.A n).d, dictOf (winD w.params n (S.W n) j) j.n) ∈ l ∧ EarlyAt l j := H.elim fun _ H => let ⟨j, a, b, _⟩ := H.wd n h; ⟨j, a, b⟩
theorem TreeIn.wc {w : World} {l : Led} {S : TS} (H : TreeIn w l S) {n : Int} (h : n ∈ S.dom) : ∃ vs k, ((S.W n).c, listOf vs.toArray k) ∈ l ∧ IntsAre vs (S.W n).kids := H.elim fun _ H => H.wc n h
theorem TreeIn.ex {w : World} {l : Led} {S : TS} (H : TreeIn w l S) {p : Addr × Obj} (h : p ∈ S.ex) : p ∈ l := H.elim fun _ H => H.ex p h

/-- the ledger without an address -/
def off (D : Addr) (l : Led) : Led := l.filter fun p => p.1 != D
theorem off_ne {D : Addr} {l : Led} : ∀ p ∈ off D l, p.1 ≠ D := fun p h => by
  have := (List.mem_filter.mp h).2
  simpa using this
theorem mem_off {D : Addr} {l : Led} {p : Addr × Obj} (h : p ∈ l) (hn : p.1 ≠ D) : p ∈ off D l := List.mem_filter.mpr ⟨h, by simpa using hn⟩
theorem off_sub {D : Addr} {l : Led} : ∀ p ∈ off D l, p ∈ l := fun _ h => (List.mem_filter.mp h).1
theorem news_turn {h₀ h : Heap} {L D : Addr} {o : Obj} {l : Led} (N : News h₀ L h l) (hm : (D, o) ∈ l) : News h₀ L h ((D, o) :: off D l) := fun p hp => by
  rcases List.mem_cons.mp hp with rfl | hp
  · exact N _ hm
  · exact N _ (off_sub _ hp)
theorem upd_turn {D : Addr} {o o' : Obj} {l : Led} : Upd D o o' ((D, o) :: off D l) ((D, o') :: off D l) := .head off_ne
theorem updF_turn {D : Addr} {o : Obj} {l : Led} : UpdF D o ((D, o) :: off D l) (fun o' => (D, o') :: off D l) := .head off_ne
theorem mem_turn {D : Addr} {o : Obj} {l : Led} {p : Addr × Obj} (h : p ∈ l) (hn : p.1 ≠ D) : p ∈ (D, o) :: off D l := .tail _ (mem_off h hn)

/-- a window's dict is turned -/
theorem TreeTag.setW {w : World} {l : Led} {S : TS} {tag : Addr → Nat × Int} (H : TreeTag w l S tag) {n : Int} (hn : n ∈ S.dom) (r : WR) (j : Jk) (hc : r.c = (S.W n).c) (hk : r.kids = (S.W n).kids)
    (he : EarlyAt l j) (hg : tag j.e = (6, n)) : TreeTag w (((S.A n).d, dictOf (winD w.params n r j) j.n) :: off (S.A n).d l) { S with W := upd S.W n r } tag := by
  obtain ⟨g1, g2, g3⟩ := H.gx n hn
  have K : ∀ {p : Addr × Obj}, p ∈ l → p.1 ≠ (S.A n).d → p ∈ ((S.A n).d, dictOf (winD w.params n r j) j.n) :: off (S.A n).d l := fun h hn => mem_turn h hn
  refine ⟨K H.tx (tag_ne H.g0.1 g2 (by simp)), let ⟨j, h⟩ := H.td; ⟨j, K h (tag_ne H.g0.2.1 g2 (by simp))⟩, let ⟨o, k, h, r⟩ := H.tw; ⟨o, k, K h (tag_ne H.g0.2.2 g2 (by simp)), r⟩, H.lo,
    fun m h => K (H.wx m h) (tag_ne (H.gx m h).1 g2 (by simp)), fun m h => ?_, fun m h => ?_, fun p h => K (H.ex p h) (tag_ne1 g2 (H.ge p h) (by simp)).symm, H.g0, fun m h => ?_, H.ge, H.sz⟩
  · by_cases e : m = n
    · subst e
      refine ⟨j, ?_, ?_, hg⟩
      · dsimp only; rw [upd_same]; exact .head _
      · obtain ⟨k, he⟩ := he; exact ⟨k, K he (tag_ne hg g2 (by simp))⟩
    · obtain ⟨j', a, ⟨k, b⟩, c⟩ := H.wd m h
      refine ⟨j', ?_, ⟨k, K b (tag_ne c g2 (by simp))⟩, c⟩
      dsimp only
      rw [upd_ne _ _ e]
      exact K a (tag_ne (H.gx m h).2.1 g2 (by simp [e]))
  · obtain ⟨vs, k, a, b⟩ := H.wc m h
    by_cases e : m = n
    · subst e
      refine ⟨vs, k, ?_, ?_⟩
      · dsimp only; rw [upd_same, hc]; exact K a (tag_ne (H.gx m h).2.2 g2 (by simp))
      · dsimp only; rw [upd_same, hk]; exact b
    · refine ⟨vs, k, ?_, ?_⟩
      · dsimp only; rw [upd_ne _ _ e]; exact K a (tag_ne (H.gx m h).2.2 g2 (by simp))
      · dsimp only; rw [upd_ne _ _ e]; exact b
  · dsimp only
    by_cases e : m = n
    · subst e; rw [upd_same, hc]; exact H.gx m h
    · rw [upd_ne _ _ e]; exact H.gx m h
end
section
open PySem PySem.W PyProof.Rows PySem.Calls PySem.Spec PyProof.V
theorem TreeTag.setT {w : World} {l : Led} {S : TS} {tag : Addr → Nat × Int} (H : TreeTag w l S tag) (i1 i2 i3 : Int) (j : Jk) :
    TreeTag w ((S.d, dictOf (treeD w.params { S with last := i1, root := i2, selected := i3 } j) j.n) :: off S.d l) { S with last := i1, root := i2, selected := i3 } tag := by
  obtain ⟨g1, g2, g3⟩ := H.g0
  have K : ∀ {o : Obj} {p : Addr × Obj}, p ∈ l → p.1 ≠ S.d → p ∈ (S.d, o) :: off S.d l := fun h hn => mem_turn h hn
  exact ⟨K H.tx (tag_ne g1 g2 (by simp)), ⟨j, .head _⟩, let ⟨o, k, h, r⟩ := H.tw; ⟨o, k, K h (tag_ne g3 g2 (by simp)), r⟩, H.lo,
    fun m h => K (H.wx m h) (tag_ne (H.gx m h).1 g2 (by simp)), fun m h => let ⟨j', a, ⟨k, b⟩, c⟩ := H.wd m h; ⟨j', K a (tag_ne (H.gx m h).2.1 g2 (by simp)), ⟨k, K b (tag_ne c g2 (by simp))⟩, c⟩,
    fun m h => let ⟨vs, k, a, b⟩ := H.wc m h; ⟨vs, k, K a (tag_ne (H.gx m h).2.2 g2 (by simp)), b⟩, fun p h => K (H.ex p h) (tag_ne1 g2 (H.ge p h) (by simp)).symm, H.g0, H.gx, H.ge, H.sz⟩

theorem TreeTag.setK {w : World} {l : Led} {S : TS} {tag : Addr → Nat × Int} (H : TreeTag w l S tag) {n : Int} (hn : n ∈ S.dom) {vs : List Value} {k : Nat} {ks : List Int} (hi : IntsAre vs ks) :
    TreeTag w (((S.W n).c, listOf vs.toArray k) :: off (S.W n).c l) { S with W := upd S.W n { S.W n with kids := ks } } tag := by
  obtain ⟨g1, g2, g3⟩ := H.gx n hn
  have K : ∀ {p : Addr × Obj}, p ∈ l → p.1 ≠ (S.W n).c → p ∈ ((S.W n).c, listOf vs.toArray k) :: off (S.W n).c l := fun h hn => mem_turn h hn
  refine ⟨K H.tx (tag_ne H.g0.1 g3 (by simp)), let ⟨j, h⟩ := H.td; ⟨j, K h (tag_ne H.g0.2.1 g3 (by simp))⟩, let ⟨o, k, h, r⟩ := H.tw; ⟨o, k, K h (tag_ne H.g0.2.2 g3 (by simp)), r⟩, H.lo,
    fun m h => K (H.wx m h) (tag_ne (H.gx m h).1 g3 (by simp)), fun m h => ?_, fun m h => ?_, fun p h => K (H.ex p h) (tag_ne1 g3 (H.ge p h) (by simp)).symm, H.g0, fun m h => ?_, H.ge, H.sz⟩
  · obtain ⟨j', a, ⟨k', b⟩, c⟩ := H.wd m h
    refine ⟨j', ?_, ⟨k', K b (tag_ne c g3 (by simp))⟩, c⟩
    have a' := K a (tag_ne (H.gx m h).2.1 g3 (by simp))
    dsimp only
    by_cases e : m = n
    · subst e; rw [upd_same]; exact a'
    · rw [upd_ne _ _ e]; exact a'
  · by_cases e : m = n
    · subst e; refine ⟨vs, k, ?_, ?_⟩
      · dsimp only; rw [upd_same]; exact .head _
      · dsimp only; rw [upd_same]; exact hi
    · obtain ⟨vs', k', a, b⟩ := H.wc m h
      refine ⟨vs', k', ?_, ?_⟩
      · dsimp only; rw [upd_ne _ _ e]; exact K a (tag_ne (H.gx m h).2.2 g3 (by simp [e]))
      · dsimp only; rw [upd_ne _ _ e]; exact b
  · dsimp only
    by_cases e : m = n
    · subst e; rw [upd_same]; exact H.gx m h
    · rw [upd_ne _ _ e]; exact H.gx m h

theorem TreeTag.retag {w : World} {l : Led} {S : TS} {tag tag' : Addr → Nat × Int} (H : TreeTag w l S tag) (ht : ∀ p ∈ l, tag' p.1 = tag p.1) : TreeTag w l S tag' := by
  refine ⟨H.tx, H.td, H.tw, H.lo, H.wx, fun n h => ?_, H.wc, H.ex, ⟨?_, ?_, ?_⟩, fun n h => ⟨?_, ?_, ?_⟩, fun p h => ?_, H.sz⟩
  · obtain ⟨j, a, ⟨k, b⟩, c⟩ := H.wd n h
    exact ⟨j, a, ⟨k, b⟩, (ht _ b).trans c⟩
  · exact (ht _ H.tx).trans H.g0.1
  · obtain ⟨j, h⟩ := H.td; exact (ht _ h).trans H.g0.2.1
  · obtain ⟨o, k, h, _⟩ := H.tw; exact (ht _ h).trans H.g0.2.2
  · exact (ht _ (H.wx n h)).trans (H.gx n h).1
  · obtain ⟨j, a, _⟩ := H.wd n h; exact (ht _ a).trans (H.gx n h).2.1
  · obtain ⟨vs, k, a, _⟩ := H.wc n h; exact (ht _ a).trans (H.gx n h).2.2
  · rw [ht _ (H.ex p h)]; exact H.ge p h

def setTag (tag : Addr → Nat × Int) (a : Addr) (x : Nat × Int) : Addr → Nat × Int := fun b => if b = a then x else tag b
theorem setTag_same (tag : Addr → Nat × Int) (a : Addr) (x : Nat × Int) : setTag tag a x a = x := if_pos rfl
theorem setTag_ne (tag : Addr → Nat × Int) {a b : Addr} (x : Nat × Int) (h : b ≠ a) : setTag tag a x b = tag b := if_neg h

theorem TreeIn.keep {w : World} {l : Led} {S : TS} (H : TreeIn w l S) {a : Addr} (o : Obj) (h : ∀ p ∈ l, p.1 ≠ a) : TreeIn w ((a, o) :: l) { S with ex := (a, o) :: S.ex } := by
  obtain ⟨tag, H⟩ := H
  have H2 := (H.retag (tag' := setTag tag a (7, 0)) fun p hp => setTag_ne _ _ (h p hp)).mono (fun p hp => List.Mem.tail (a, o) hp)
  exact ⟨_, { H2 with
    td := let ⟨j, h⟩ := H2.td; ⟨j, h⟩
    ex := fun p hp => by
      rcases List.mem_cons.mp hp with rfl | hp
      · exact .head _
      · exact H2.ex p hp
    ge := fun p hp => by
      rcases List.mem_cons.mp hp with rfl | hp
      · dsimp only; rw [setTag_same]
      · exact H2.ge p hp }⟩
theorem TreeIn.drop {w : World} {l : Led} {S : TS} (H : TreeIn w l S) {ex' : Led} (h : ∀ p ∈ ex', p ∈ S.ex) : TreeIn w l { S with ex := ex' } := by
  obtain ⟨tag, H⟩ := H
  exact ⟨tag, { H with td := let ⟨j, h⟩ := H.td; ⟨j, h⟩, ex := fun p hp => H.ex p (h p hp), ge := fun p hp => H.ge p (h p hp) }⟩

theorem TreeTag.out {w : World} {l : Led} {S : TS} {tag : Addr → Nat × Int} (H : TreeTag w l S tag) {D : Addr} {o' : Obj} (ht : (tag D).1 = 7) (ex' : Led) (hex : ∀ p ∈ ex', p ∈ (D, o') :: off D l) (hge : ∀ p ∈ ex', (tag p.1).1 = 7) :
    TreeTag w ((D, o') :: off D l) { S with ex := ex' } tag := by
  have K : ∀ {p : Addr × Obj}, p ∈ l → p.1 ≠ D → p ∈ (D, o') :: off D l := fun h hn => mem_turn h hn
  exact ⟨K H.tx (tag_ne1 H.g0.1 ht (by simp)), let ⟨j, h⟩ := H.td; ⟨j, K h (tag_ne1 H.g0.2.1 ht (by simp))⟩, let ⟨o, k, h, r⟩ := H.tw; ⟨o, k, K h (tag_ne1 H.g0.2.2 ht (by simp)), r⟩, H.lo,
    fun m h => K (H.wx m h) (tag_ne1 (H.gx m h).1 ht (by simp)), fun m h => let ⟨j', a, ⟨k, b⟩, c⟩ := H.wd m h; ⟨j', K a (tag_ne1 (H.gx m h).2.1 ht (by simp)), ⟨k, K b (tag_ne1 c ht (by simp))⟩, c⟩,
    fun m h => let ⟨vs, k, a, b⟩ := H.wc m h; ⟨vs, k, K a (tag_ne1 (H.gx m h).2.2 ht (by simp)), b⟩, hex, H.g0, H.gx, hge, H.sz⟩
theorem TreeIn.turn {w : World} {l : Led} {S : TS} (H : TreeIn w l S) {D : Addr} {o o' : Obj} (hm : (D, o) ∈ S.ex) : TreeIn w ((D, o') :: off D l) { S with ex := (D, o') :: off D S.ex } := by
  obtain ⟨tag, H⟩ := H
  have hg : (tag D).1 = 7 := H.ge _ hm
  refine ⟨tag, H.out hg _ (fun p hp => ?_) fun p hp => ?_⟩
  · rcases List.mem_cons.mp hp with rfl | hp
    · exact .head _
    · exact mem_turn (H.ex p (off_sub _ hp)) (off_ne p hp)
  · rcases List.mem_cons.mp hp with rfl | hp
    · exact hg
    · exact H.ge p (off_sub _ hp)

/-- a new children list -/
theorem TreeTag.setC {w : World} {l : Led} {S : TS} {tag : Addr → Nat × Int} (H : TreeTag w l S tag) {n : Int} (hn : n ∈ S.dom) {c : Addr} {vs : List Value} {k : Nat} {ks : List Int} (hm : (c, listOf vs.toArray k) ∈ S.ex) (hi : IntsAre vs ks) (j : Jk)
    (he : EarlyAt l j) (hg : tag j.e = (6, n)) :
    TreeTag w (((S.A n).d, dictOf (winD w.params n { S.W n with c := c, kids := ks } j) j.n) :: off (S.A n).d l) { S with W := upd S.W n { S.W n with c := c, kids := ks }, ex := off c S.ex } (setTag tag c (5, n)) := by
  obtain ⟨g1, g2, g3⟩ := H.gx n hn
  have hc7 : (tag c).1 = 7 := H.ge _ hm
  have hml := H.ex _ hm
  have K : ∀ {p : Addr × Obj}, p ∈ l → p.1 ≠ (S.A n).d → p ∈ ((S.A n).d, dictOf (winD w.params n { S.W n with c := c, kids := ks } j) j.n) :: off (S.A n).d l := fun h hn => mem_turn h hn
  have ts : ∀ {a : Addr} {x : Nat × Int}, tag a = x → x.1 ≠ 7 → setTag tag c (5, n) a = x := fun {a x} h h7 => by
    rw [setTag_ne _ _ (tag_ne1 h hc7 h7)]; exact h
  refine ⟨K H.tx (tag_ne H.g0.1 g2 (by simp)), let ⟨j, h⟩ := H.td; ⟨j, K h (tag_ne H.g0.2.1 g2 (by simp))⟩, let ⟨o, k, h, r⟩ := H.tw; ⟨o, k, K h (tag_ne H.g0.2.2 g2 (by simp)), r⟩, H.lo,
    fun m h => K (H.wx m h) (tag_ne (H.gx m h).1 g2 (by simp)), fun m h => ?_, fun m h => ?_, fun p h => K (H.ex p (off_sub _ h)) (tag_ne1 g2 (H.ge p (off_sub _ h)) (by simp)).symm, ⟨ts H.g0.1 (by simp), ts H.g0.2.1 (by simp), ts H.g0.2.2 (by simp)⟩, fun m h => ⟨ts (H.gx m h).1 (by simp), ts (H.gx m h).2.1 (by simp), ?_⟩,
    fun p h => by rw [setTag_ne _ _ (off_ne p h)]; exact H.ge p (off_sub _ h), H.sz⟩
  · by_cases e : m = n
    · subst e
      refine ⟨j, ?_, ?_, ts hg (by simp)⟩
      · dsimp only; rw [upd_same]; exact .head _
      · obtain ⟨k, he⟩ := he; exact ⟨k, K he (tag_ne hg g2 (by simp))⟩
    · obtain ⟨j', a, ⟨k, b⟩, c⟩ := H.wd m h
      refine ⟨j', ?_, ⟨k, K b (tag_ne c g2 (by simp))⟩, ts c (by simp)⟩
      dsimp only
      rw [upd_ne _ _ e]
      exact K a (tag_ne (H.gx m h).2.1 g2 (by simp [e]))
  · by_cases e : m = n
    · subst e
      refine ⟨vs, k, ?_, ?_⟩
      · dsimp only; rw [upd_same]; exact K hml (tag_ne1 g2 hc7 (by simp)).symm
      · dsimp only; rw [upd_same]; exact hi
    · obtain ⟨vs', k', a, b⟩ := H.wc m h
      refine ⟨vs', k', ?_, ?_⟩
      · dsimp only; rw [upd_ne _ _ e]; exact K a (tag_ne (H.gx m h).2.2 g2 (by simp))
      · dsimp only; rw [upd_ne _ _ e]; exact b
  · dsimp only
    by_cases e : m = n
    · subst e; rw [upd_same]; exact setTag_same _ _ _
    · rw [upd_ne _ _ e]; exact ts (H.gx m h).2.2 (by simp)

/-- a window more -/
theorem TreeTag.add {w : World} {l l' : Led} {S : TS} {tag : Addr → Nat × Int} (H : TreeTag w l S tag) {n : Int} (hn : n ∉ S.dom) (x d : Addr) (r : WR) (j : Jk) (wo' : Obj) (kvs : List (Int × Value))
    (fx : ∀ p ∈ l, p.1 ≠ x) (fd : ∀ p ∈ l, p.1 ≠ d) (fc : ∀ p ∈ l, p.1 ≠ r.c) (fe : ∀ p ∈ l, p.1 ≠ j.e) (n1 : x ≠ d) (n2 : x ≠ r.c) (n3 : x ≠ j.e) (n4 : d ≠ r.c) (n5 : d ≠ j.e) (n6 : r.c ≠ j.e)
    (hsub : ∀ p ∈ l, p.1 ≠ S.w → p ∈ l') (hw : (S.w, wo') ∈ l') (hkv : kvs.length ≤ S.dom.length) (hdir : DirOk S kvs) (hd : wo'.IsDictOf (ik w) (stored kvs n (.ref x)))
    (hx : (x, instObj 93 d) ∈ l') (hdd : (d, dictOf (winD w.params n r j) j.n) ∈ l') {vs : List Value} {k : Nat} (hc : (r.c, listOf vs.toArray k) ∈ l') (hi : IntsAre vs r.kids) (he : EarlyAt l' j) (hsz : S.dom.length < 1000) :
    TreeTag w l' { S with dom := n :: S.dom, A := upd S.A n ⟨x, d⟩, W := upd S.W n r } (setTag (setTag (setTag (setTag tag x (3, n)) d (4, n)) r.c (5, n)) j.e (6, n)) := by
  have tl : ∀ p ∈ l, setTag (setTag (setTag (setTag tag x (3, n)) d (4, n)) r.c (5, n)) j.e (6, n) p.1 = tag p.1 := fun p hp => by
    rw [setTag_ne _ _ (fe p hp), setTag_ne _ _ (fc p hp), setTag_ne _ _ (fd p hp), setTag_ne _ _ (fx p hp)]
  have H := H.retag tl
  generalize hT : setTag (setTag (setTag (setTag tag x (3, n)) d (4, n)) r.c (5, n)) j.e (6, n) = tg at H
  have t1 : tg x = (3, n) := by rw [← hT, setTag_ne _ _ n3, setTag_ne _ _ n2, setTag_ne _ _ n1, setTag_same]
  have t2 : tg d = (4, n) := by rw [← hT, setTag_ne _ _ n5, setTag_ne _ _ n4, setTag_same]
  have t3 : tg r.c = (5, n) := by rw [← hT, setTag_ne _ _ n6, setTag_same]
  have t4 : tg j.e = (6, n) := by rw [← hT, setTag_same]
  obtain ⟨g1, g2, g3⟩ := H.g0
  have ne : ∀ {m : Int}, m ∈ S.dom → m ≠ n := fun h e => hn (e ▸ h)
  have hd0 : ∀ m, m ∈ n :: S.dom → m = n ∨ (m ∈ S.dom ∧ m ≠ n) := fun m h => by
    rcases List.mem_cons.mp h with e | h
    · exact .inl e
    · exact .inr ⟨h, ne h⟩
  refine ⟨hsub _ H.tx (tag_ne g1 g3 (by simp)), let ⟨j, h⟩ := H.td; ⟨j, hsub _ h (tag_ne g2 g3 (by simp))⟩, ⟨wo', _, hw, hd, ?_, fun m h => ?_⟩, H.lo, fun m h => ?_, fun m h => ?_, fun m h => ?_, fun p h => hsub _ (H.ex p h) (tag_ne1 g3 (H.ge p h) (by simp)).symm, ⟨g1, g2, g3⟩, fun m h => ?_, H.ge, ?_⟩
  · unfold stored
    split <;> simp <;> lia
  · rcases hd0 m h with rfl | ⟨h, e⟩
    · dsimp only; rw [upd_same]; unfold stored valueAt
      split
      · rename_i ha
        clear hdir hd hkv
        induction kvs with
        | nil => simp at ha
        | cons q r ih =>
          by_cases hq : q.1 = m
          · simp [hq]
          · simp only [List.any_cons, hq, decide_false, Bool.false_or] at ha
            have := ih ha
            simpa [hq] using this
      · rename_i ha
        have : ∀ q ∈ kvs, q.1 ≠ m := fun q hq e => ha (List.any_eq_true.mpr ⟨q, hq, by simp [e]⟩)
        rw [List.find?_append, List.find?_eq_none.mpr (fun q hq => by simpa using this q hq)]
        simp
    · dsimp only; rw [upd_ne _ _ e, ← hdir m h]; unfold stored valueAt
      split
      · rename_i ha
        clear hdir hd hkv ha
        induction kvs with
        | nil => simp
        | cons q r ih =>
          by_cases hq : q.1 = n
          · have : q.1 ≠ m := fun z => e (z.symm.trans hq)
            simp [hq, e.symm] at ih ⊢
            exact ih
          · by_cases hm : q.1 = m
            · simp [hm, e]
            · simp [hq, hm] at ih ⊢
              exact ih
      · rw [List.find?_append]
        cases hf : List.find? (fun kv : Int × Value => decide (kv.1 = m)) kvs with
        | some q => simp
        | none => simp [e.symm]
  · rcases hd0 m h with rfl | ⟨h, e⟩
    · dsimp only; rw [upd_same]; exact hx
    · dsimp only; rw [upd_ne _ _ e]; exact hsub _ (H.wx m h) (tag_ne (H.gx m h).1 g3 (by simp))
  · rcases hd0 m h with rfl | ⟨h, e⟩
    · refine ⟨j, ?_, he, t4⟩; dsimp only; rw [upd_same, upd_same]; exact hdd
    · obtain ⟨j', a, ⟨k, b⟩, c⟩ := H.wd m h
      refine ⟨j', ?_, ⟨k, hsub _ b (tag_ne c g3 (by simp))⟩, c⟩
      dsimp only; rw [upd_ne _ _ e, upd_ne _ _ e]; exact hsub _ a (tag_ne (H.gx m h).2.1 g3 (by simp))
  · rcases hd0 m h with rfl | ⟨h, e⟩
    · refine ⟨vs, k, ?_, ?_⟩
      · dsimp only; rw [upd_same]; exact hc
      · dsimp only; rw [upd_same]; exact hi
    · obtain ⟨vs', k', a, b⟩ := H.wc m h
      refine ⟨vs', k', ?_, ?_⟩
      · dsimp only; rw [upd_ne _ _ e]; exact hsub _ a (tag_ne (H.gx m h).2.2 g3 (by simp))
      · dsimp only; rw [upd_ne _ _ e]; exact b
  · rcases hd0 m h with rfl | ⟨h, e⟩
    · dsimp only; rw [upd_same, upd_same]; exact ⟨t1, t2, t3⟩
    · dsimp only; rw [upd_ne _ _ e, upd_ne _ _ e]; exact H.gx m h
  · simp; lia
end
section
open PySem PySem.W PyProof.Rows PySem.Calls PySem.Spec PyProof.V
section
variable {w : World} {A : Around} {E : Value → Shared → Prop} {s : Shared} {h₀ : Heap} {L : Addr} {m : Str → Option Value} {news : Led} {S S0 : TS} {n : Int} {expr : Bool} {pl : Sem Bool}
theorem rd_number (F : Fr h₀ L s.heap m) (X : (Mine.hd.heap_1 w.params).In h₀) (N : News h₀ L s.heap news) (hT : TreeIn w news S) (hn : n ∈ S.dom) (hA : S.A n = S0.A n) {Q : Value → Shared → Prop} (h : ∀ t, Q (.int n t) { s with toks := s.toks + 1 }) :
    wpAny (model PySem.Challenge.rw_np0059_01.row.prog w) A (getAttr (.ref (S0.A n).x) (Str.ofString "number") expr) Q E s := by
  revert X; k_fill; intro X
  obtain ⟨j, h1, he⟩ := hT.wd hn
  have h0 := hT.wx hn
  rw [hA] at h0 h1
  k_dflt (refine' get_own ?k1 ?k2 ?k3 ?k4 ?k5 ?k6 ?k7 ?k8 ?k9 ?_; (case k1 => k_asm); (case k2 => k_asm); (case k3 => exact InstAt.of_news N h0 h1); (case k4 => k_is); (case k5 => k_is); (case k6 => k_is); (case k7 => k_is); (case k8 => k_get); (case k9 => k_handed))
  exact h _
theorem rd_sort (F : Fr h₀ L s.heap m) (X : (Mine.hd.heap_1 w.params).In h₀) (N : News h₀ L s.heap news) (hT : TreeIn w news S) (hn : n ∈ S.dom) (hA : S.A n = S0.A n) {Q : Value → Shared → Prop} (h : ∀ t, Q (.int (S.W n).sort t) { s with toks := s.toks + 1 }) :
    wpAny (model PySem.Challenge.rw_np0059_01.row.prog w) A (getAttr (.ref (S0.A n).x) (Str.ofString "sort") expr) Q E s := by
  revert X; k_fill; intro X
  obtain ⟨j, h1, he⟩ := hT.wd hn
  have h0 := hT.wx hn
  rw [hA] at h0 h1
  k_dflt (refine' get_own ?k1 ?k2 ?k3 ?k4 ?k5 ?k6 ?k7 ?k8 ?k9 ?_; (case k1 => k_asm); (case k2 => k_asm); (case k3 => exact InstAt.of_news N h0 h1); (case k4 => k_is); (case k5 => k_is); (case k6 => k_is); (case k7 => k_is); (case k8 => k_get); (case k9 => k_handed))
  exact h _
theorem rd_parent (F : Fr h₀ L s.heap m) (X : (Mine.hd.heap_1 w.params).In h₀) (N : News h₀ L s.heap news) (hT : TreeIn w news S) (hn : n ∈ S.dom) (hA : S.A n = S0.A n) {Q : Value → Shared → Prop} (h : ∀ t, Q (.int (S.W n).parent t) { s with toks := s.toks + 1 }) :
    wpAny (model PySem.Challenge.rw_np0059_01.row.prog w) A (getAttr (.ref (S0.A n).x) (Str.ofString "parent") expr) Q E s := by
  revert X; k_fill; intro X
  obtain ⟨j, h1, he⟩ := hT.wd hn
  have h0 := hT.wx hn
  rw [hA] at h0 h1
  k_dflt (refine' get_own ?k1 ?k2 ?k3 ?k4 ?k5 ?k6 ?k7 ?k8 ?k9 ?_; (case k1 => k_asm); (case k2 => k_asm); (case k3 => exact InstAt.of_news N h0 h1); (case k4 => k_is); (case k5 => k_is); (case k6 => k_is); (case k7 => k_is); (case k8 => k_get); (case k9 => k_handed))
  exact h _
theorem rd_left (F : Fr h₀ L s.heap m) (X : (Mine.hd.heap_1 w.params).In h₀) (N : News h₀ L s.heap news) (hT : TreeIn w news S) (hn : n ∈ S.dom) (hA : S.A n = S0.A n) {Q : Value → Shared → Prop} (h : ∀ t, Q (.int (S.W n).left t) { s with toks := s.toks + 1 }) :
    wpAny (model PySem.Challenge.rw_np0059_01.row.prog w) A (getAttr (.ref (S0.A n).x) (Str.ofString "left") expr) Q E s := by
  revert X; k_fill; intro X
  obtain ⟨j, h1, he⟩ := hT.wd hn
  have h0 := hT.wx hn
  rw [hA] at h0 h1
  k_dflt (refine' get_own ?k1 ?k2 ?k3 ?k4 ?k5 ?k6 ?k7 ?k8 ?k9 ?_; (case k1 => k_asm); (case k2 => k_asm); (case k3 => exact InstAt.of_news N h0 h1); (case k4 => k_is); (case k5 => k_is); (case k6 => k_is); (case k7 => k_is); (case k8 => k_get); (case k9 => k_handed))
  exact h _
theorem rd_top (F : Fr h₀ L s.heap m) (X : (Mine.hd.heap_1 w.params).In h₀) (N : News h₀ L s.heap news) (hT : TreeIn w news S) (hn : n ∈ S.dom) (hA : S.A n = S0.A n) {Q : Value → Shared → Prop} (h : ∀ t, Q (.int (S.W n).top t) { s with toks := s.toks + 1 }) :
    wpAny (model PySem.Challenge.rw_np0059_01.row.prog w) A (getAttr (.ref (S0.A n).x) (Str.ofString "top") expr) Q E s := by
  revert X; k_fill; intro X
  obtain ⟨j, h1, he⟩ := hT.wd hn
  have h0 := hT.wx hn
  rw [hA] at h0 h1
  k_dflt (refine' get_own ?k1 ?k2 ?k3 ?k4 ?k5 ?k6 ?k7 ?k8 ?k9 ?_; (case k1 => k_asm); (case k2 => k_asm); (case k3 => exact InstAt.of_news N h0 h1); (case k4 => k_is); (case k5 => k_is); (case k6 => k_is); (case k7 => k_is); (case k8 => k_get); (case k9 => k_handed))
  exact h _
theorem rd_width (F : Fr h₀ L s.heap m) (X : (Mine.hd.heap_1 w.params).In h₀) (N : News h₀ L s.heap news) (hT : TreeIn w news S) (hn : n ∈ S.dom) (hA : S.A n = S0.A n) {Q : Value → Shared → Prop} (h : ∀ t, Q (.int (S.W n).width t) { s with toks := s.toks + 1 }) :
    wpAny (model PySem.Challenge.rw_np0059_01.row.prog w) A (getAttr (.ref (S0.A n).x) (Str.ofString "width") expr) Q E s := by
  revert X; k_fill; intro X
  obtain ⟨j, h1, he⟩ := hT.wd hn
  have h0 := hT.wx hn
  rw [hA] at h0 h1
  k_dflt (refine' get_own ?k1 ?k2 ?k3 ?k4 ?k5 ?k6 ?k7 ?k8 ?k9 ?_; (case k1 => k_asm); (case k2 => k_asm); (case k3 => exact InstAt.of_news N h0 h1); (case k4 => k_is); (case k5 => k_is); (case k6 => k_is); (case k7 => k_is); (case k8 => k_get); (case k9 => k_handed))
  exact h _
theorem rd_height (F : Fr h₀ L s.heap m) (X : (Mine.hd.heap_1 w.params).In h₀) (N : News h₀ L s.heap news) (hT : TreeIn w news S) (hn : n ∈ S.dom) (hA : S.A n = S0.A n) {Q : Value → Shared → Prop} (h : ∀ t, Q (.int (S.W n).height t) { s with toks := s.toks + 1 }) :
    wpAny (model PySem.Challenge.rw_np0059_01.row.prog w) A (getAttr (.ref (S0.A n).x) (Str.ofString "height") expr) Q E s := by
  revert X; k_fill; intro X
  obtain ⟨j, h1, he⟩ := hT.wd hn
  have h0 := hT.wx hn
  rw [hA] at h0 h1
  k_dflt (refine' get_own ?k1 ?k2 ?k3 ?k4 ?k5 ?k6 ?k7 ?k8 ?k9 ?_; (case k1 => k_asm); (case k2 => k_asm); (case k3 => exact InstAt.of_news N h0 h1); (case k4 => k_is); (case k5 => k_is); (case k6 => k_is); (case k7 => k_is); (case k8 => k_get); (case k9 => k_handed))
  exact h _
theorem rd_buffer (F : Fr h₀ L s.heap m) (X : (Mine.hd.heap_1 w.params).In h₀) (N : News h₀ L s.heap news) (hT : TreeIn w news S) (hn : n ∈ S.dom) (hA : S.A n = S0.A n) {Q : Value → Shared → Prop} (h : ∀ i t, Q (.int i t) { s with toks := s.toks + 1 }) :
    wpAny (model PySem.Challenge.rw_np0059_01.row.prog w) A (getAttr (.ref (S0.A n).x) (Str.ofString "buffer") expr) Q E s := by
  revert X; k_fill; intro X
  obtain ⟨j, h1, he⟩ := hT.wd hn
  have h0 := hT.wx hn
  rw [hA] at h0 h1
  k_dflt (refine' get_own ?k1 ?k2 ?k3 ?k4 ?k5 ?k6 ?k7 ?k8 ?k9 ?_; (case k1 => k_asm); (case k2 => k_asm); (case k3 => exact InstAt.of_news N h0 h1); (case k4 => k_is); (case k5 => k_is); (case k6 => k_is); (case k7 => k_is); (case k8 => k_get); (case k9 => k_handed))
  exact h _ _
theorem rd_start (F : Fr h₀ L s.heap m) (X : (Mine.hd.heap_1 w.params).In h₀) (N : News h₀ L s.heap news) (hT : TreeIn w news S) (hn : n ∈ S.dom) (hA : S.A n = S0.A n) {Q : Value → Shared → Prop} (h : ∀ i t, Q (.int i t) { s with toks := s.toks + 1 }) :
    wpAny (model PySem.Challenge.rw_np0059_01.row.prog w) A (getAttr (.ref (S0.A n).x) (Str.ofString "start") expr) Q E s := by
  revert X; k_fill; intro X
  obtain ⟨j, h1, he⟩ := hT.wd hn
  have h0 := hT.wx hn
  rw [hA] at h0 h1
  k_dflt (refine' get_own ?k1 ?k2 ?k3 ?k4 ?k5 ?k6 ?k7 ?k8 ?k9 ?_; (case k1 => k_asm); (case k2 => k_asm); (case k3 => exact InstAt.of_news N h0 h1); (case k4 => k_is); (case k5 => k_is); (case k6 => k_is); (case k7 => k_is); (case k8 => k_get); (case k9 => k_handed))
  exact h _ _
theorem rd_point (F : Fr h₀ L s.heap m) (X : (Mine.hd.heap_1 w.params).In h₀) (N : News h₀ L s.heap news) (hT : TreeIn w news S) (hn : n ∈ S.dom) (hA : S.A n = S0.A n) {Q : Value → Shared → Prop} (h : ∀ i t, Q (.int i t) { s with toks := s.toks + 1 }) :
    wpAny (model PySem.Challenge.rw_np0059_01.row.prog w) A (getAttr (.ref (S0.A n).x) (Str.ofString "point") expr) Q E s := by
  revert X; k_fill; intro X
  obtain ⟨j, h1, he⟩ := hT.wd hn
  have h0 := hT.wx hn
  rw [hA] at h0 h1
  k_dflt (refine' get_own ?k1 ?k2 ?k3 ?k4 ?k5 ?k6 ?k7 ?k8 ?k9 ?_; (case k1 => k_asm); (case k2 => k_asm); (case k3 => exact InstAt.of_news N h0 h1); (case k4 => k_is); (case k5 => k_is); (case k6 => k_is); (case k7 => k_is); (case k8 => k_get); (case k9 => k_handed))
  exact h _ _
theorem rd_hscroll (F : Fr h₀ L s.heap m) (X : (Mine.hd.heap_1 w.params).In h₀) (N : News h₀ L s.heap news) (hT : TreeIn w news S) (hn : n ∈ S.dom) (hA : S.A n = S0.A n) {Q : Value → Shared → Prop} (h : ∀ i t, Q (.int i t) { s with toks := s.toks + 1 }) :
    wpAny (model PySem.Challenge.rw_np0059_01.row.prog w) A (getAttr (.ref (S0.A n).x) (Str.ofString "hscroll") expr) Q E s := by
  revert X; k_fill; intro X
  obtain ⟨j, h1, he⟩ := hT.wd hn
  have h0 := hT.wx hn
  rw [hA] at h0 h1
  k_dflt (refine' get_own ?k1 ?k2 ?k3 ?k4 ?k5 ?k6 ?k7 ?k8 ?k9 ?_; (case k1 => k_asm); (case k2 => k_asm); (case k3 => exact InstAt.of_news N h0 h1); (case k4 => k_is); (case k5 => k_is); (case k6 => k_is); (case k7 => k_is); (case k8 => k_get); (case k9 => k_handed))
  exact h _ _
theorem rd_children (F : Fr h₀ L s.heap m) (X : (Mine.hd.heap_1 w.params).In h₀) (N : News h₀ L s.heap news) (hT : TreeIn w news S) (hn : n ∈ S.dom) (hA : S.A n = S0.A n) {Q : Value → Shared → Prop} (h : Q (.ref (S.W n).c) { s with toks := s.toks + 1 }) :
    wpAny (model PySem.Challenge.rw_np0059_01.row.prog w) A (getAttr (.ref (S0.A n).x) (Str.ofString "children") expr) Q E s := by
  revert X; k_fill; intro X
  obtain ⟨j, h1, he⟩ := hT.wd hn
  have h0 := hT.wx hn
  rw [hA] at h0 h1
  k_dflt (refine' get_own ?k1 ?k2 ?k3 ?k4 ?k5 ?k6 ?k7 ?k8 ?k9 ?_; (case k1 => k_asm); (case k2 => k_asm); (case k3 => exact InstAt.of_news N h0 h1); (case k4 => k_is); (case k5 => k_is); (case k6 => k_is); (case k7 => k_is); (case k8 => k_get); (case k9 => k_handed))
  exact h
theorem rd_earlier (F : Fr h₀ L s.heap m) (X : (Mine.hd.heap_1 w.params).In h₀) (N : News h₀ L s.heap news) (hT : TreeIn w news S) (hn : n ∈ S.dom) (hA : S.A n = S0.A n) {Q : Value → Shared → Prop} (h : ∀ e k, (e, listOf #[] k) ∈ news → Q (.ref e) { s with toks := s.toks + 1 }) :
    wpAny (model PySem.Challenge.rw_np0059_01.row.prog w) A (getAttr (.ref (S0.A n).x) (Str.ofString "earlier") expr) Q E s := by
  revert X; k_fill; intro X
  obtain ⟨j, h1, he⟩ := hT.wd hn
  have h0 := hT.wx hn
  rw [hA] at h0 h1
  k_dflt (refine' get_own ?k1 ?k2 ?k3 ?k4 ?k5 ?k6 ?k7 ?k8 ?k9 ?_; (case k1 => k_asm); (case k2 => k_asm); (case k3 => exact InstAt.of_news N h0 h1); (case k4 => k_is); (case k5 => k_is); (case k6 => k_is); (case k7 => k_is); (case k8 => k_get); (case k9 => k_handed))
  obtain ⟨k, he⟩ := he; exact h _ k he
theorem rd_t_last (F : Fr h₀ L s.heap m) (X : (Mine.hd.heap_1 w.params).In h₀) (N : News h₀ L s.heap news) (hT : TreeIn w news S) (hx : S.x = S0.x) (hd : S.d = S0.d) {Q : Value → Shared → Prop} (h : ∀ t, Q (.int (S.last) t) { s with toks := s.toks + 1 }) :
    wpAny (model PySem.Challenge.rw_np0059_01.row.prog w) A (getAttr (.ref S0.x) (Str.ofString "last") expr) Q E s := by
  revert X; k_fill; intro X
  obtain ⟨j, h1⟩ := hT.td
  have h0 := hT.tx
  rw [hd] at h1 h0
  rw [hx] at h0
  k_dflt (refine' get_own ?k1 ?k2 ?k3 ?k4 ?k5 ?k6 ?k7 ?k8 ?k9 ?_; (case k1 => k_asm); (case k2 => k_asm); (case k3 => exact InstAt.of_news N h0 h1); (case k4 => k_is); (case k5 => k_is); (case k6 => k_is); (case k7 => k_is); (case k8 => k_get); (case k9 => k_handed))
  exact h _
theorem rd_t_root (F : Fr h₀ L s.heap m) (X : (Mine.hd.heap_1 w.params).In h₀) (N : News h₀ L s.heap news) (hT : TreeIn w news S) (hx : S.x = S0.x) (hd : S.d = S0.d) {Q : Value → Shared → Prop} (h : ∀ t, Q (.int (S.root) t) { s with toks := s.toks + 1 }) :
    wpAny (model PySem.Challenge.rw_np0059_01.row.prog w) A (getAttr (.ref S0.x) (Str.ofString "root") expr) Q E s := by
  revert X; k_fill; intro X
  obtain ⟨j, h1⟩ := hT.td
  have h0 := hT.tx
  rw [hd] at h1 h0
  rw [hx] at h0
  k_dflt (refine' get_own ?k1 ?k2 ?k3 ?k4 ?k5 ?k6 ?k7 ?k8 ?k9 ?_; (case k1 => k_asm); (case k2 => k_asm); (case k3 => exact InstAt.of_news N h0 h1); (case k4 => k_is); (case k5 => k_is); (case k6 => k_is); (case k7 => k_is); (case k8 => k_get); (case k9 => k_handed))
  exact h _
theorem rd_t_selected (F : Fr h₀ L s.heap m) (X : (Mine.hd.heap_1 w.params).In h₀) (N : News h₀ L s.heap news) (hT : TreeIn w news S) (hx : S.x = S0.x) (hd : S.d = S0.d) {Q : Value → Shared → Prop} (h : ∀ t, Q (.int (S.selected) t) { s with toks := s.toks + 1 }) :
    wpAny (model PySem.Challenge.rw_np0059_01.row.prog w) A (getAttr (.ref S0.x) (Str.ofString "selected") expr) Q E s := by
  revert X; k_fill; intro X
  obtain ⟨j, h1⟩ := hT.td
  have h0 := hT.tx
  rw [hd] at h1 h0
  rw [hx] at h0
  k_dflt (refine' get_own ?k1 ?k2 ?k3 ?k4 ?k5 ?k6 ?k7 ?k8 ?k9 ?_; (case k1 => k_asm); (case k2 => k_asm); (case k3 => exact InstAt.of_news N h0 h1); (case k4 => k_is); (case k5 => k_is); (case k6 => k_is); (case k7 => k_is); (case k8 => k_get); (case k9 => k_handed))
  exact h _
theorem rd_t_least_width (F : Fr h₀ L s.heap m) (X : (Mine.hd.heap_1 w.params).In h₀) (N : News h₀ L s.heap news) (hT : TreeIn w news S) (hx : S.x = S0.x) (hd : S.d = S0.d) {Q : Value → Shared → Prop} (h : ∀ t, Q (.int (3) t) { s with toks := s.toks + 1 }) :
    wpAny (model PySem.Challenge.rw_np0059_01.row.prog w) A (getAttr (.ref S0.x) (Str.ofString "least_width") expr) Q E s := by
  revert X; k_fill; intro X
  obtain ⟨j, h1⟩ := hT.td
  have h0 := hT.tx
  rw [hd] at h1 h0
  rw [hx] at h0
  k_dflt (refine' get_own ?k1 ?k2 ?k3 ?k4 ?k5 ?k6 ?k7 ?k8 ?k9 ?_; (case k1 => k_asm); (case k2 => k_asm); (case k3 => exact InstAt.of_news N h0 h1); (case k4 => k_is); (case k5 => k_is); (case k6 => k_is); (case k7 => k_is); (case k8 => k_get); (case k9 => k_handed))
  exact h _
theorem rd_t_least_height (F : Fr h₀ L s.heap m) (X : (Mine.hd.heap_1 w.params).In h₀) (N : News h₀ L s.heap news) (hT : TreeIn w news S) (hx : S.x = S0.x) (hd : S.d = S0.d) {Q : Value → Shared → Prop} (h : ∀ t, Q (.int (2) t) { s with toks := s.toks + 1 }) :
    wpAny (model PySem.Challenge.rw_np0059_01.row.prog w) A (getAttr (.ref S0.x) (Str.ofString "least_height") expr) Q E s := by
  revert X; k_fill; intro X
  obtain ⟨j, h1⟩ := hT.td
  have h0 := hT.tx
  rw [hd] at h1 h0
  rw [hx] at h0
  k_dflt (refine' get_own ?k1 ?k2 ?k3 ?k4 ?k5 ?k6 ?k7 ?k8 ?k9 ?_; (case k1 => k_asm); (case k2 => k_asm); (case k3 => exact InstAt.of_news N h0 h1); (case k4 => k_is); (case k5 => k_is); (case k6 => k_is); (case k7 => k_is); (case k8 => k_get); (case k9 => k_handed))
  exact h _
theorem rd_t_clock (F : Fr h₀ L s.heap m) (X : (Mine.hd.heap_1 w.params).In h₀) (N : News h₀ L s.heap news) (hT : TreeIn w news S) (hx : S.x = S0.x) (hd : S.d = S0.d) {Q : Value → Shared → Prop} (h : ∀ i t, Q (.int i t) { s with toks := s.toks + 1 }) :
    wpAny (model PySem.Challenge.rw_np0059_01.row.prog w) A (getAttr (.ref S0.x) (Str.ofString "clock") expr) Q E s := by
  revert X; k_fill; intro X
  obtain ⟨j, h1⟩ := hT.td
  have h0 := hT.tx
  rw [hd] at h1 h0
  rw [hx] at h0
  k_dflt (refine' get_own ?k1 ?k2 ?k3 ?k4 ?k5 ?k6 ?k7 ?k8 ?k9 ?_; (case k1 => k_asm); (case k2 => k_asm); (case k3 => exact InstAt.of_news N h0 h1); (case k4 => k_is); (case k5 => k_is); (case k6 => k_is); (case k7 => k_is); (case k8 => k_get); (case k9 => k_handed))
  exact h _ _
theorem rd_t_windows (F : Fr h₀ L s.heap m) (X : (Mine.hd.heap_1 w.params).In h₀) (N : News h₀ L s.heap news) (hT : TreeIn w news S) (hx : S.x = S0.x) (hd : S.d = S0.d) {Q : Value → Shared → Prop} (h : Q (.ref S.w) { s with toks := s.toks + 1 }) :
    wpAny (model PySem.Challenge.rw_np0059_01.row.prog w) A (getAttr (.ref S0.x) (Str.ofString "windows") expr) Q E s := by
  revert X; k_fill; intro X
  obtain ⟨j, h1⟩ := hT.td
  have h0 := hT.tx
  rw [hd] at h1 h0
  rw [hx] at h0
  k_dflt (refine' get_own ?k1 ?k2 ?k3 ?k4 ?k5 ?k6 ?k7 ?k8 ?k9 ?_; (case k1 => k_asm); (case k2 => k_asm); (case k3 => exact InstAt.of_news N h0 h1); (case k4 => k_is); (case k5 => k_is); (case k6 => k_is); (case k7 => k_is); (case k8 => k_get); (case k9 => k_handed))
  exact h
theorem md_size (F : Fr h₀ L s.heap m) (X : (Mine.hd.heap_1 w.params).In h₀) (N : News h₀ L s.heap news) (hT : TreeIn w news S) (hn : n ∈ S.dom) (hA : S.A n = S0.A n) {Q : Value × List Value → Shared → Prop} (h : Q (.ref 62, [.ref (S0.A n).x]) s) :
    wpAny (model PySem.Challenge.rw_np0059_01.row.prog w) A (getMethod (.ref (S0.A n).x) (Str.ofString "size") pl) Q E s := by
  revert X; k_fill; intro X
  obtain ⟨j, h1, he⟩ := hT.wd hn
  have h0 := hT.wx hn
  rw [hA] at h0 h1
  k_dflt (refine' method_inst ?k1 ?k2 ?k3 ?k4 ?k5 ?k6 ?k7 ?_; (case k1 => k_asm); (case k2 => k_asm); (case k3 => exact InstAt.of_news N h0 h1); (case k4 => k_is); (case k5 => k_is); (case k6 => k_is); (case k7 => k_get))
  exact h
theorem md_set_size (F : Fr h₀ L s.heap m) (X : (Mine.hd.heap_1 w.params).In h₀) (N : News h₀ L s.heap news) (hT : TreeIn w news S) (hn : n ∈ S.dom) (hA : S.A n = S0.A n) {Q : Value × List Value → Shared → Prop} (h : Q (.ref 69, [.ref (S0.A n).x]) s) :
    wpAny (model PySem.Challenge.rw_np0059_01.row.prog w) A (getMethod (.ref (S0.A n).x) (Str.ofString "set_size") pl) Q E s := by
  revert X; k_fill; intro X
  obtain ⟨j, h1, he⟩ := hT.wd hn
  have h0 := hT.wx hn
  rw [hA] at h0 h1
  k_dflt (refine' method_inst ?k1 ?k2 ?k3 ?k4 ?k5 ?k6 ?k7 ?_; (case k1 => k_asm); (case k2 => k_asm); (case k3 => exact InstAt.of_news N h0 h1); (case k4 => k_is); (case k5 => k_is); (case k6 => k_is); (case k7 => k_get))
  exact h
theorem md_place (F : Fr h₀ L s.heap m) (X : (Mine.hd.heap_1 w.params).In h₀) (N : News h₀ L s.heap news) (hT : TreeIn w news S) (hn : n ∈ S.dom) (hA : S.A n = S0.A n) {Q : Value × List Value → Shared → Prop} (h : Q (.ref 76, [.ref (S0.A n).x]) s) :
    wpAny (model PySem.Challenge.rw_np0059_01.row.prog w) A (getMethod (.ref (S0.A n).x) (Str.ofString "place") pl) Q E s := by
  revert X; k_fill; intro X
  obtain ⟨j, h1, he⟩ := hT.wd hn
  have h0 := hT.wx hn
  rw [hA] at h0 h1
  k_dflt (refine' method_inst ?k1 ?k2 ?k3 ?k4 ?k5 ?k6 ?k7 ?_; (case k1 => k_asm); (case k2 => k_asm); (case k3 => exact InstAt.of_news N h0 h1); (case k4 => k_is); (case k5 => k_is); (case k6 => k_is); (case k7 => k_get))
  exact h
theorem md_shown (F : Fr h₀ L s.heap m) (X : (Mine.hd.heap_1 w.params).In h₀) (N : News h₀ L s.heap news) (hT : TreeIn w news S) (hn : n ∈ S.dom) (hA : S.A n = S0.A n) {Q : Value × List Value → Shared → Prop} (h : Q (.ref 83, [.ref (S0.A n).x]) s) :
    wpAny (model PySem.Challenge.rw_np0059_01.row.prog w) A (getMethod (.ref (S0.A n).x) (Str.ofString "shown") pl) Q E s := by
  revert X; k_fill; intro X
  obtain ⟨j, h1, he⟩ := hT.wd hn
  have h0 := hT.wx hn
  rw [hA] at h0 h1
  k_dflt (refine' method_inst ?k1 ?k2 ?k3 ?k4 ?k5 ?k6 ?k7 ?_; (case k1 => k_asm); (case k2 => k_asm); (case k3 => exact InstAt.of_news N h0 h1); (case k4 => k_is); (case k5 => k_is); (case k6 => k_is); (case k7 => k_get))
  exact h
theorem md_show (F : Fr h₀ L s.heap m) (X : (Mine.hd.heap_1 w.params).In h₀) (N : News h₀ L s.heap news) (hT : TreeIn w news S) (hn : n ∈ S.dom) (hA : S.A n = S0.A n) {Q : Value × List Value → Shared → Prop} (h : Q (.ref 90, [.ref (S0.A n).x]) s) :
    wpAny (model PySem.Challenge.rw_np0059_01.row.prog w) A (getMethod (.ref (S0.A n).x) (Str.ofString "show") pl) Q E s := by
  revert X; k_fill; intro X
  obtain ⟨j, h1, he⟩ := hT.wd hn
  have h0 := hT.wx hn
  rw [hA] at h0 h1
  k_dflt (refine' method_inst ?k1 ?k2 ?k3 ?k4 ?k5 ?k6 ?k7 ?_; (case k1 => k_asm); (case k2 => k_asm); (case k3 => exact InstAt.of_news N h0 h1); (case k4 => k_is); (case k5 => k_is); (case k6 => k_is); (case k7 => k_get))
  exact h
theorem md_t_fresh (F : Fr h₀ L s.heap m) (X : (Mine.hd.heap_1 w.params).In h₀) (N : News h₀ L s.heap news) (hT : TreeIn w news S) (hx : S.x = S0.x) (hd : S.d = S0.d) {Q : Value × List Value → Shared → Prop} (h : Q (.ref 119, [.ref S0.x]) s) :
    wpAny (model PySem.Challenge.rw_np0059_01.row.prog w) A (getMethod (.ref S0.x) (Str.ofString "fresh") pl) Q E s := by
  revert X; k_fill; intro X
  obtain ⟨j, h1⟩ := hT.td
  have h0 := hT.tx
  rw [hd] at h1 h0
  rw [hx] at h0
  k_dflt (refine' method_inst ?k1 ?k2 ?k3 ?k4 ?k5 ?k6 ?k7 ?_; (case k1 => k_asm); (case k2 => k_asm); (case k3 => exact InstAt.of_news N h0 h1); (case k4 => k_is); (case k5 => k_is); (case k6 => k_is); (case k7 => k_get))
  exact h
theorem md_t_window (F : Fr h₀ L s.heap m) (X : (Mine.hd.heap_1 w.params).In h₀) (N : News h₀ L s.heap news) (hT : TreeIn w news S) (hx : S.x = S0.x) (hd : S.d = S0.d) {Q : Value × List Value → Shared → Prop} (h : Q (.ref 126, [.ref S0.x]) s) :
    wpAny (model PySem.Challenge.rw_np0059_01.row.prog w) A (getMethod (.ref S0.x) (Str.ofString "window") pl) Q E s := by
  revert X; k_fill; intro X
  obtain ⟨j, h1⟩ := hT.td
  have h0 := hT.tx
  rw [hd] at h1 h0
  rw [hx] at h0
  k_dflt (refine' method_inst ?k1 ?k2 ?k3 ?k4 ?k5 ?k6 ?k7 ?_; (case k1 => k_asm); (case k2 => k_asm); (case k3 => exact InstAt.of_news N h0 h1); (case k4 => k_is); (case k5 => k_is); (case k6 => k_is); (case k7 => k_get))
  exact h
theorem md_t_leaf (F : Fr h₀ L s.heap m) (X : (Mine.hd.heap_1 w.params).In h₀) (N : News h₀ L s.heap news) (hT : TreeIn w news S) (hx : S.x = S0.x) (hd : S.d = S0.d) {Q : Value × List Value → Shared → Prop} (h : Q (.ref 133, [.ref S0.x]) s) :
    wpAny (model PySem.Challenge.rw_np0059_01.row.prog w) A (getMethod (.ref S0.x) (Str.ofString "leaf") pl) Q E s := by
  revert X; k_fill; intro X
  obtain ⟨j, h1⟩ := hT.td
  have h0 := hT.tx
  rw [hd] at h1 h0
  rw [hx] at h0
  k_dflt (refine' method_inst ?k1 ?k2 ?k3 ?k4 ?k5 ?k6 ?k7 ?_; (case k1 => k_asm); (case k2 => k_asm); (case k3 => exact InstAt.of_news N h0 h1); (case k4 => k_is); (case k5 => k_is); (case k6 => k_is); (case k7 => k_get))
  exact h
theorem md_t_touch (F : Fr h₀ L s.heap m) (X : (Mine.hd.heap_1 w.params).In h₀) (N : News h₀ L s.heap news) (hT : TreeIn w news S) (hx : S.x = S0.x) (hd : S.d = S0.d) {Q : Value × List Value → Shared → Prop} (h : Q (.ref 140, [.ref S0.x]) s) :
    wpAny (model PySem.Challenge.rw_np0059_01.row.prog w) A (getMethod (.ref S0.x) (Str.ofString "touch") pl) Q E s := by
  revert X; k_fill; intro X
  obtain ⟨j, h1⟩ := hT.td
  have h0 := hT.tx
  rw [hd] at h1 h0
  rw [hx] at h0
  k_dflt (refine' method_inst ?k1 ?k2 ?k3 ?k4 ?k5 ?k6 ?k7 ?_; (case k1 => k_asm); (case k2 => k_asm); (case k3 => exact InstAt.of_news N h0 h1); (case k4 => k_is); (case k5 => k_is); (case k6 => k_is); (case k7 => k_get))
  exact h
theorem md_t_select (F : Fr h₀ L s.heap m) (X : (Mine.hd.heap_1 w.params).In h₀) (N : News h₀ L s.heap news) (hT : TreeIn w news S) (hx : S.x = S0.x) (hd : S.d = S0.d) {Q : Value × List Value → Shared → Prop} (h : Q (.ref 147, [.ref S0.x]) s) :
    wpAny (model PySem.Challenge.rw_np0059_01.row.prog w) A (getMethod (.ref S0.x) (Str.ofString "select") pl) Q E s := by
  revert X; k_fill; intro X
  obtain ⟨j, h1⟩ := hT.td
  have h0 := hT.tx
  rw [hd] at h1 h0
  rw [hx] at h0
  k_dflt (refine' method_inst ?k1 ?k2 ?k3 ?k4 ?k5 ?k6 ?k7 ?_; (case k1 => k_asm); (case k2 => k_asm); (case k3 => exact InstAt.of_news N h0 h1); (case k4 => k_is); (case k5 => k_is); (case k6 => k_is); (case k7 => k_get))
  exact h
theorem md_t_least_leaf (F : Fr h₀ L s.heap m) (X : (Mine.hd.heap_1 w.params).In h₀) (N : News h₀ L s.heap news) (hT : TreeIn w news S) (hx : S.x = S0.x) (hd : S.d = S0.d) {Q : Value × List Value → Shared → Prop} (h : Q (.ref 154, [.ref S0.x]) s) :
    wpAny (model PySem.Challenge.rw_np0059_01.row.prog w) A (getMethod (.ref S0.x) (Str.ofString "least_leaf") pl) Q E s := by
  revert X; k_fill; intro X
  obtain ⟨j, h1⟩ := hT.td
  have h0 := hT.tx
  rw [hd] at h1 h0
  rw [hx] at h0
  k_dflt (refine' method_inst ?k1 ?k2 ?k3 ?k4 ?k5 ?k6 ?k7 ?_; (case k1 => k_asm); (case k2 => k_asm); (case k3 => exact InstAt.of_news N h0 h1); (case k4 => k_is); (case k5 => k_is); (case k6 => k_is); (case k7 => k_get))
  exact h
end
end
section
open PySem PySem.W PyProof.Rows PySem.Calls PySem.Spec PyProof.V
theorem put_parent (P : Params) (S : TS) (n : Int) (r : WR) (j : Jk) (tk : Tok) (i : Int × Tok) :
    (putL (Str.ofString "parent") (PyData.keyHash P (Str.ofString "parent")) (.str (Str.ofString "parent") tk) (.int i.1 i.2) (winD P n r j), putN (Str.ofString "parent") (winD P n r j) j.n) = (winD P n { r with parent := i.1 } { j with t := fun q => if q = 2 then i.2 else j.t q }, ({ j with t := fun q => if q = 2 then i.2 else j.t q }).n) := by kernel_rfl
theorem put_left (P : Params) (S : TS) (n : Int) (r : WR) (j : Jk) (tk : Tok) (i : Int × Tok) :
    (putL (Str.ofString "left") (PyData.keyHash P (Str.ofString "left")) (.str (Str.ofString "left") tk) (.int i.1 i.2) (winD P n r j), putN (Str.ofString "left") (winD P n r j) j.n) = (winD P n { r with left := i.1 } { j with t := fun q => if q = 4 then i.2 else j.t q }, ({ j with t := fun q => if q = 4 then i.2 else j.t q }).n) := by kernel_rfl
theorem put_top (P : Params) (S : TS) (n : Int) (r : WR) (j : Jk) (tk : Tok) (i : Int × Tok) :
    (putL (Str.ofString "top") (PyData.keyHash P (Str.ofString "top")) (.str (Str.ofString "top") tk) (.int i.1 i.2) (winD P n r j), putN (Str.ofString "top") (winD P n r j) j.n) = (winD P n { r with top := i.1 } { j with t := fun q => if q = 5 then i.2 else j.t q }, ({ j with t := fun q => if q = 5 then i.2 else j.t q }).n) := by kernel_rfl
theorem put_width (P : Params) (S : TS) (n : Int) (r : WR) (j : Jk) (tk : Tok) (i : Int × Tok) :
    (putL (Str.ofString "width") (PyData.keyHash P (Str.ofString "width")) (.str (Str.ofString "width") tk) (.int i.1 i.2) (winD P n r j), putN (Str.ofString "width") (winD P n r j) j.n) = (winD P n { r with width := i.1 } { j with t := fun q => if q = 6 then i.2 else j.t q }, ({ j with t := fun q => if q = 6 then i.2 else j.t q }).n) := by kernel_rfl
theorem put_height (P : Params) (S : TS) (n : Int) (r : WR) (j : Jk) (tk : Tok) (i : Int × Tok) :
    (putL (Str.ofString "height") (PyData.keyHash P (Str.ofString "height")) (.str (Str.ofString "height") tk) (.int i.1 i.2) (winD P n r j), putN (Str.ofString "height") (winD P n r j) j.n) = (winD P n { r with height := i.1 } { j with t := fun q => if q = 7 then i.2 else j.t q }, ({ j with t := fun q => if q = 7 then i.2 else j.t q }).n) := by kernel_rfl
theorem put_buffer (P : Params) (S : TS) (n : Int) (r : WR) (j : Jk) (tk : Tok) (i : Int × Tok) :
    (putL (Str.ofString "buffer") (PyData.keyHash P (Str.ofString "buffer")) (.str (Str.ofString "buffer") tk) (.int i.1 i.2) (winD P n r j), putN (Str.ofString "buffer") (winD P n r j) j.n) = (winD P n r { j with t := fun q => if q = 8 then i.2 else j.t q, b := fun q => if q = 8 then i.1 else j.b q }, ({ j with t := fun q => if q = 8 then i.2 else j.t q, b := fun q => if q = 8 then i.1 else j.b q }).n) := by kernel_rfl
theorem put_start (P : Params) (S : TS) (n : Int) (r : WR) (j : Jk) (tk : Tok) (i : Int × Tok) :
    (putL (Str.ofString "start") (PyData.keyHash P (Str.ofString "start")) (.str (Str.ofString "start") tk) (.int i.1 i.2) (winD P n r j), putN (Str.ofString "start") (winD P n r j) j.n) = (winD P n r { j with t := fun q => if q = 9 then i.2 else j.t q, b := fun q => if q = 9 then i.1 else j.b q }, ({ j with t := fun q => if q = 9 then i.2 else j.t q, b := fun q => if q = 9 then i.1 else j.b q }).n) := by kernel_rfl
theorem put_point (P : Params) (S : TS) (n : Int) (r : WR) (j : Jk) (tk : Tok) (i : Int × Tok) :
    (putL (Str.ofString "point") (PyData.keyHash P (Str.ofString "point")) (.str (Str.ofString "point") tk) (.int i.1 i.2) (winD P n r j), putN (Str.ofString "point") (winD P n r j) j.n) = (winD P n r { j with t := fun q => if q = 10 then i.2 else j.t q, b := fun q => if q = 10 then i.1 else j.b q }, ({ j with t := fun q => if q = 10 then i.2 else j.t q, b := fun q => if q = 10 then i.1 else j.b q }).n) := by kernel_rfl
theorem put_hscroll (P : Params) (S : TS) (n : Int) (r : WR) (j : Jk) (tk : Tok) (i : Int × Tok) :
    (putL (Str.ofString "hscroll") (PyData.keyHash P (Str.ofString "hscroll")) (.str (Str.ofString "hscroll") tk) (.int i.1 i.2) (winD P n r j), putN (Str.ofString "hscroll") (winD P n r j) j.n) = (winD P n r { j with t := fun q => if q = 11 then i.2 else j.t q, b := fun q => if q = 11 then i.1 else j.b q }, ({ j with t := fun q => if q = 11 then i.2 else j.t q, b := fun q => if q = 11 then i.1 else j.b q }).n) := by kernel_rfl
theorem put_use_time (P : Params) (S : TS) (n : Int) (r : WR) (j : Jk) (tk : Tok) (i : Int × Tok) :
    (putL (Str.ofString "use_time") (PyData.keyHash P (Str.ofString "use_time")) (.str (Str.ofString "use_time") tk) (.int i.1 i.2) (winD P n r j), putN (Str.ofString "use_time") (winD P n r j) j.n) = (winD P n r { j with t := fun q => if q = 13 then i.2 else j.t q, b := fun q => if q = 13 then i.1 else j.b q }, ({ j with t := fun q => if q = 13 then i.2 else j.t q, b := fun q => if q = 13 then i.1 else j.b q }).n) := by kernel_rfl
theorem put_children (P : Params) (S : TS) (n : Int) (r : WR) (j : Jk) (tk : Tok) (i : Addr × Tok) :
    (putL (Str.ofString "children") (PyData.keyHash P (Str.ofString "children")) (.str (Str.ofString "children") tk) (.ref i.1) (winD P n r j), putN (Str.ofString "children") (winD P n r j) j.n) = (winD P n { r with c := i.1, kids := [] } j, (j).n) := by kernel_rfl
theorem put_t_last (P : Params) (S : TS) (n : Int) (r : WR) (j : Jk) (tk : Tok) (i : Int × Tok) :
    (putL (Str.ofString "last") (PyData.keyHash P (Str.ofString "last")) (.str (Str.ofString "last") tk) (.int i.1 i.2) (treeD P S j), putN (Str.ofString "last") (treeD P S j) j.n) = (treeD P ({ S with last := i.1 }) { j with t := fun q => if q = 1 then i.2 else j.t q }, ({ j with t := fun q => if q = 1 then i.2 else j.t q }).n) := by kernel_rfl
theorem put_t_clock (P : Params) (S : TS) (n : Int) (r : WR) (j : Jk) (tk : Tok) (i : Int × Tok) :
    (putL (Str.ofString "clock") (PyData.keyHash P (Str.ofString "clock")) (.str (Str.ofString "clock") tk) (.int i.1 i.2) (treeD P S j), putN (Str.ofString "clock") (treeD P S j) j.n) = (treeD P (S) { j with t := fun q => if q = 2 then i.2 else j.t q, b := fun q => if q = 2 then i.1 else j.b q }, ({ j with t := fun q => if q = 2 then i.2 else j.t q, b := fun q => if q = 2 then i.1 else j.b q }).n) := by kernel_rfl
theorem put_t_root (P : Params) (S : TS) (n : Int) (r : WR) (j : Jk) (tk : Tok) (i : Int × Tok) :
    (putL (Str.ofString "root") (PyData.keyHash P (Str.ofString "root")) (.str (Str.ofString "root") tk) (.int i.1 i.2) (treeD P S j), putN (Str.ofString "root") (treeD P S j) j.n) = (treeD P ({ S with root := i.1 }) { j with t := fun q => if q = 5 then i.2 else j.t q }, ({ j with t := fun q => if q = 5 then i.2 else j.t q }).n) := by kernel_rfl
theorem put_t_selected (P : Params) (S : TS) (n : Int) (r : WR) (j : Jk) (tk : Tok) (i : Int × Tok) :
    (putL (Str.ofString "selected") (PyData.keyHash P (Str.ofString "selected")) (.str (Str.ofString "selected") tk) (.int i.1 i.2) (treeD P S j), putN (Str.ofString "selected") (treeD P S j) j.n) = (treeD P ({ S with selected := i.1 }) { j with t := fun q => if q = 6 then i.2 else j.t q }, ({ j with t := fun q => if q = 6 then i.2 else j.t q }).n) := by kernel_rfl
section
variable {w : World} {A : Around} {E : Value → Shared → Prop} {s : Shared} {h₀ : Heap} {L : Addr} {m : Str → Option Value} {news : Led} {S S0 : TS} {n : Int} {expr : Bool} {pl : Sem Bool}
theorem wr_parent (F : Fr h₀ L s.heap m) (X : (Mine.hd.heap_1 w.params).In h₀) (N : News h₀ L s.heap news) (hT : TreeIn w news S) (hn : n ∈ S.dom) (hA : S.A n = S0.A n) {i : Int} {t : Tok} {Q : Unit → Shared → Prop} (h : ∀ h' news', Fr h₀ L h' m → News h₀ L h' news' → TreeIn w news' { S with W := upd S.W n { S.W n with parent := i } } → Q () { s with heap := h', toks := s.toks + 2 }) :
    wpAny (model PySem.Challenge.rw_np0059_01.row.prog w) A (setAttr (.ref (S0.A n).x) (Str.ofString "parent") (.int i t)) Q E s := by
  revert X; k_fill; intro X
  obtain ⟨tag, H⟩ := hT
  obtain ⟨j, h1, he, hg⟩ := H.wd n hn
  have h0 := H.wx n hn
  rw [← hA]
  k_dflt (refine' set_dict ?k1 ?k2 (news_turn N h1) ?k4 ?k5 ?k6 ?k7 ?k8 ?k9 ?k10 ?k11 upd_turn ?k13 ?_; (case k1 => k_asm); (case k2 => k_asm); (case k4 => exact InstAt.of_news N h0 h1); (case k5 => exact rfl); (case k6 => k_is); (case k7 => k_is); (case k8 => k_is); (case k9 => k_is); (case k10 => k_get); (case k11 => exact put_parent w.params S n (S.W n) j _ (_, _)); (case k13 => exact Nat.le_of_ble_eq_true rfl))
  intro h' F' N'
  exact h h' _ F' N' ⟨tag, H.setW hn { S.W n with parent := i } { j with t := fun q => if q = 2 then t else j.t q } rfl rfl he hg⟩
theorem wr_left (F : Fr h₀ L s.heap m) (X : (Mine.hd.heap_1 w.params).In h₀) (N : News h₀ L s.heap news) (hT : TreeIn w news S) (hn : n ∈ S.dom) (hA : S.A n = S0.A n) {i : Int} {t : Tok} {Q : Unit → Shared → Prop} (h : ∀ h' news', Fr h₀ L h' m → News h₀ L h' news' → TreeIn w news' { S with W := upd S.W n { S.W n with left := i } } → Q () { s with heap := h', toks := s.toks + 2 }) :
    wpAny (model PySem.Challenge.rw_np0059_01.row.prog w) A (setAttr (.ref (S0.A n).x) (Str.ofString "left") (.int i t)) Q E s := by
  revert X; k_fill; intro X
  obtain ⟨tag, H⟩ := hT
  obtain ⟨j, h1, he, hg⟩ := H.wd n hn
  have h0 := H.wx n hn
  rw [← hA]
  k_dflt (refine' set_dict ?k1 ?k2 (news_turn N h1) ?k4 ?k5 ?k6 ?k7 ?k8 ?k9 ?k10 ?k11 upd_turn ?k13 ?_; (case k1 => k_asm); (case k2 => k_asm); (case k4 => exact InstAt.of_news N h0 h1); (case k5 => exact rfl); (case k6 => k_is); (case k7 => k_is); (case k8 => k_is); (case k9 => k_is); (case k10 => k_get); (case k11 => exact put_left w.params S n (S.W n) j _ (_, _)); (case k13 => exact Nat.le_of_ble_eq_true rfl))
  intro h' F' N'
  exact h h' _ F' N' ⟨tag, H.setW hn { S.W n with left := i } { j with t := fun q => if q = 4 then t else j.t q } rfl rfl he hg⟩
theorem wr_top (F : Fr h₀ L s.heap m) (X : (Mine.hd.heap_1 w.params).In h₀) (N : News h₀ L s.heap news) (hT : TreeIn w news S) (hn : n ∈ S.dom) (hA : S.A n = S0.A n) {i : Int} {t : Tok} {Q : Unit → Shared → Prop} (h : ∀ h' news', Fr h₀ L h' m → News h₀ L h' news' → TreeIn w news' { S with W := upd S.W n { S.W n with top := i } } → Q () { s with heap := h', toks := s.toks + 2 }) :
    wpAny (model PySem.Challenge.rw_np0059_01.row.prog w) A (setAttr (.ref (S0.A n).x) (Str.ofString "top") (.int i t)) Q E s := by
  revert X; k_fill; intro X
  obtain ⟨tag, H⟩ := hT
  obtain ⟨j, h1, he, hg⟩ := H.wd n hn
  have h0 := H.wx n hn
  rw [← hA]
  k_dflt (refine' set_dict ?k1 ?k2 (news_turn N h1) ?k4 ?k5 ?k6 ?k7 ?k8 ?k9 ?k10 ?k11 upd_turn ?k13 ?_; (case k1 => k_asm); (case k2 => k_asm); (case k4 => exact InstAt.of_news N h0 h1); (case k5 => exact rfl); (case k6 => k_is); (case k7 => k_is); (case k8 => k_is); (case k9 => k_is); (case k10 => k_get); (case k11 => exact put_top w.params S n (S.W n) j _ (_, _)); (case k13 => exact Nat.le_of_ble_eq_true rfl))
  intro h' F' N'
  exact h h' _ F' N' ⟨tag, H.setW hn { S.W n with top := i } { j with t := fun q => if q = 5 then t else j.t q } rfl rfl he hg⟩
theorem wr_width (F : Fr h₀ L s.heap m) (X : (Mine.hd.heap_1 w.params).In h₀) (N : News h₀ L s.heap news) (hT : TreeIn w news S) (hn : n ∈ S.dom) (hA : S.A n = S0.A n) {i : Int} {t : Tok} {Q : Unit → Shared → Prop} (h : ∀ h' news', Fr h₀ L h' m → News h₀ L h' news' → TreeIn w news' { S with W := upd S.W n { S.W n with width := i } } → Q () { s with heap := h', toks := s.toks + 2 }) :
    wpAny (model PySem.Challenge.rw_np0059_01.row.prog w) A (setAttr (.ref (S0.A n).x) (Str.ofString "width") (.int i t)) Q E s := by
  revert X; k_fill; intro X
  obtain ⟨tag, H⟩ := hT
  obtain ⟨j, h1, he, hg⟩ := H.wd n hn
  have h0 := H.wx n hn
  rw [← hA]
  k_dflt (refine' set_dict ?k1 ?k2 (news_turn N h1) ?k4 ?k5 ?k6 ?k7 ?k8 ?k9 ?k10 ?k11 upd_turn ?k13 ?_; (case k1 => k_asm); (case k2 => k_asm); (case k4 => exact InstAt.of_news N h0 h1); (case k5 => exact rfl); (case k6 => k_is); (case k7 => k_is); (case k8 => k_is); (case k9 => k_is); (case k10 => k_get); (case k11 => exact put_width w.params S n (S.W n) j _ (_, _)); (case k13 => exact Nat.le_of_ble_eq_true rfl))
  intro h' F' N'
  exact h h' _ F' N' ⟨tag, H.setW hn { S.W n with width := i } { j with t := fun q => if q = 6 then t else j.t q } rfl rfl he hg⟩
theorem wr_height (F : Fr h₀ L s.heap m) (X : (Mine.hd.heap_1 w.params).In h₀) (N : News h₀ L s.heap news) (hT : TreeIn w news S) (hn : n ∈ S.dom) (hA : S.A n = S0.A n) {i : Int} {t : Tok} {Q : Unit → Shared → Prop} (h : ∀ h' news', Fr h₀ L h' m → News h₀ L h' news' → TreeIn w news' { S with W := upd S.W n { S.W n with height := i } } → Q () { s with heap := h', toks := s.toks + 2 }) :
    wpAny (model PySem.Challenge.rw_np0059_01.row.prog w) A (setAttr (.ref (S0.A n).x) (Str.ofString "height") (.int i t)) Q E s := by
  revert X; k_fill; intro X
  obtain ⟨tag, H⟩ := hT
  obtain ⟨j, h1, he, hg⟩ := H.wd n hn
  have h0 := H.wx n hn
  rw [← hA]
  k_dflt (refine' set_dict ?k1 ?k2 (news_turn N h1) ?k4 ?k5 ?k6 ?k7 ?k8 ?k9 ?k10 ?k11 upd_turn ?k13 ?_; (case k1 => k_asm); (case k2 => k_asm); (case k4 => exact InstAt.of_news N h0 h1); (case k5 => exact rfl); (case k6 => k_is); (case k7 => k_is); (case k8 => k_is); (case k9 => k_is); (case k10 => k_get); (case k11 => exact put_height w.params S n (S.W n) j _ (_, _)); (case k13 => exact Nat.le_of_ble_eq_true rfl))
  intro h' F' N'
  exact h h' _ F' N' ⟨tag, H.setW hn { S.W n with height := i } { j with t := fun q => if q = 7 then t else j.t q } rfl rfl he hg⟩
theorem wr_buffer (F : Fr h₀ L s.heap m) (X : (Mine.hd.heap_1 w.params).In h₀) (N : News h₀ L s.heap news) (hT : TreeIn w news S) (hn : n ∈ S.dom) (hA : S.A n = S0.A n) {i : Int} {t : Tok} {Q : Unit → Shared → Prop} (h : ∀ h' news', Fr h₀ L h' m → News h₀ L h' news' → TreeIn w news' S → Q () { s with heap := h', toks := s.toks + 2 }) :
    wpAny (model PySem.Challenge.rw_np0059_01.row.prog w) A (setAttr (.ref (S0.A n).x) (Str.ofString "buffer") (.int i t)) Q E s := by
  revert X; k_fill; intro X
  obtain ⟨tag, H⟩ := hT
  obtain ⟨j, h1, he, hg⟩ := H.wd n hn
  have h0 := H.wx n hn
  rw [← hA]
  k_dflt (refine' set_dict ?k1 ?k2 (news_turn N h1) ?k4 ?k5 ?k6 ?k7 ?k8 ?k9 ?k10 ?k11 upd_turn ?k13 ?_; (case k1 => k_asm); (case k2 => k_asm); (case k4 => exact InstAt.of_news N h0 h1); (case k5 => exact rfl); (case k6 => k_is); (case k7 => k_is); (case k8 => k_is); (case k9 => k_is); (case k10 => k_get); (case k11 => exact put_buffer w.params S n (S.W n) j _ (_, _)); (case k13 => exact Nat.le_of_ble_eq_true rfl))
  intro h' F' N'
  have H' := H.setW hn (S.W n) { j with t := fun q => if q = 8 then t else j.t q, b := fun q => if q = 8 then i else j.b q } rfl rfl he hg
  rw [upd_id] at H'
  exact h h' _ F' N' ⟨tag, H'⟩
theorem wr_start (F : Fr h₀ L s.heap m) (X : (Mine.hd.heap_1 w.params).In h₀) (N : News h₀ L s.heap news) (hT : TreeIn w news S) (hn : n ∈ S.dom) (hA : S.A n = S0.A n) {i : Int} {t : Tok} {Q : Unit → Shared → Prop} (h : ∀ h' news', Fr h₀ L h' m → News h₀ L h' news' → TreeIn w news' S → Q () { s with heap := h', toks := s.toks + 2 }) :
    wpAny (model PySem.Challenge.rw_np0059_01.row.prog w) A (setAttr (.ref (S0.A n).x) (Str.ofString "start") (.int i t)) Q E s := by
  revert X; k_fill; intro X
  obtain ⟨tag, H⟩ := hT
  obtain ⟨j, h1, he, hg⟩ := H.wd n hn
  have h0 := H.wx n hn
  rw [← hA]
  k_dflt (refine' set_dict ?k1 ?k2 (news_turn N h1) ?k4 ?k5 ?k6 ?k7 ?k8 ?k9 ?k10 ?k11 upd_turn ?k13 ?_; (case k1 => k_asm); (case k2 => k_asm); (case k4 => exact InstAt.of_news N h0 h1); (case k5 => exact rfl); (case k6 => k_is); (case k7 => k_is); (case k8 => k_is); (case k9 => k_is); (case k10 => k_get); (case k11 => exact put_start w.params S n (S.W n) j _ (_, _)); (case k13 => exact Nat.le_of_ble_eq_true rfl))
  intro h' F' N'
  have H' := H.setW hn (S.W n) { j with t := fun q => if q = 9 then t else j.t q, b := fun q => if q = 9 then i else j.b q } rfl rfl he hg
  rw [upd_id] at H'
  exact h h' _ F' N' ⟨tag, H'⟩
theorem wr_point (F : Fr h₀ L s.heap m) (X : (Mine.hd.heap_1 w.params).In h₀) (N : News h₀ L s.heap news) (hT : TreeIn w news S) (hn : n ∈ S.dom) (hA : S.A n = S0.A n) {i : Int} {t : Tok} {Q : Unit → Shared → Prop} (h : ∀ h' news', Fr h₀ L h' m → News h₀ L h' news' → TreeIn w news' S → Q () { s with heap := h', toks := s.toks + 2 }) :
    wpAny (model PySem.Challenge.rw_np0059_01.row.prog w) A (setAttr (.ref (S0.A n).x) (Str.ofString "point") (.int i t)) Q E s := by
  revert X; k_fill; intro X
  obtain ⟨tag, H⟩ := hT
  obtain ⟨j, h1, he, hg⟩ := H.wd n hn
  have h0 := H.wx n hn
  rw [← hA]
  k_dflt (refine' set_dict ?k1 ?k2 (news_turn N h1) ?k4 ?k5 ?k6 ?k7 ?k8 ?k9 ?k10 ?k11 upd_turn ?k13 ?_; (case k1 => k_asm); (case k2 => k_asm); (case k4 => exact InstAt.of_news N h0 h1); (case k5 => exact rfl); (case k6 => k_is); (case k7 => k_is); (case k8 => k_is); (case k9 => k_is); (case k10 => k_get); (case k11 => exact put_point w.params S n (S.W n) j _ (_, _)); (case k13 => exact Nat.le_of_ble_eq_true rfl))
  intro h' F' N'
  have H' := H.setW hn (S.W n) { j with t := fun q => if q = 10 then t else j.t q, b := fun q => if q = 10 then i else j.b q } rfl rfl he hg
  rw [upd_id] at H'
  exact h h' _ F' N' ⟨tag, H'⟩
theorem wr_hscroll (F : Fr h₀ L s.heap m) (X : (Mine.hd.heap_1 w.params).In h₀) (N : News h₀ L s.heap news) (hT : TreeIn w news S) (hn : n ∈ S.dom) (hA : S.A n = S0.A n) {i : Int} {t : Tok} {Q : Unit → Shared → Prop} (h : ∀ h' news', Fr h₀ L h' m → News h₀ L h' news' → TreeIn w news' S → Q () { s with heap := h', toks := s.toks + 2 }) :
    wpAny (model PySem.Challenge.rw_np0059_01.row.prog w) A (setAttr (.ref (S0.A n).x) (Str.ofString "hscroll") (.int i t)) Q E s := by
  revert X; k_fill; intro X
  obtain ⟨tag, H⟩ := hT
  obtain ⟨j, h1, he, hg⟩ := H.wd n hn
  have h0 := H.wx n hn
  rw [← hA]
  k_dflt (refine' set_dict ?k1 ?k2 (news_turn N h1) ?k4 ?k5 ?k6 ?k7 ?k8 ?k9 ?k10 ?k11 upd_turn ?k13 ?_; (case k1 => k_asm); (case k2 => k_asm); (case k4 => exact InstAt.of_news N h0 h1); (case k5 => exact rfl); (case k6 => k_is); (case k7 => k_is); (case k8 => k_is); (case k9 => k_is); (case k10 => k_get); (case k11 => exact put_hscroll w.params S n (S.W n) j _ (_, _)); (case k13 => exact Nat.le_of_ble_eq_true rfl))
  intro h' F' N'
  have H' := H.setW hn (S.W n) { j with t := fun q => if q = 11 then t else j.t q, b := fun q => if q = 11 then i else j.b q } rfl rfl he hg
  rw [upd_id] at H'
  exact h h' _ F' N' ⟨tag, H'⟩
theorem wr_use_time (F : Fr h₀ L s.heap m) (X : (Mine.hd.heap_1 w.params).In h₀) (N : News h₀ L s.heap news) (hT : TreeIn w news S) (hn : n ∈ S.dom) (hA : S.A n = S0.A n) {i : Int} {t : Tok} {Q : Unit → Shared → Prop} (h : ∀ h' news', Fr h₀ L h' m → News h₀ L h' news' → TreeIn w news' S → Q () { s with heap := h', toks := s.toks + 2 }) :
    wpAny (model PySem.Challenge.rw_np0059_01.row.prog w) A (setAttr (.ref (S0.A n).x) (Str.ofString "use_time") (.int i t)) Q E s := by
  revert X; k_fill; intro X
  obtain ⟨tag, H⟩ := hT
  obtain ⟨j, h1, he, hg⟩ := H.wd n hn
  have h0 := H.wx n hn
  rw [← hA]
  k_dflt (refine' set_dict ?k1 ?k2 (news_turn N h1) ?k4 ?k5 ?k6 ?k7 ?k8 ?k9 ?k10 ?k11 upd_turn ?k13 ?_; (case k1 => k_asm); (case k2 => k_asm); (case k4 => exact InstAt.of_news N h0 h1); (case k5 => exact rfl); (case k6 => k_is); (case k7 => k_is); (case k8 => k_is); (case k9 => k_is); (case k10 => k_get); (case k11 => exact put_use_time w.params S n (S.W n) j _ (_, _)); (case k13 => exact Nat.le_of_ble_eq_true rfl))
  intro h' F' N'
  have H' := H.setW hn (S.W n) { j with t := fun q => if q = 13 then t else j.t q, b := fun q => if q = 13 then i else j.b q } rfl rfl he hg
  rw [upd_id] at H'
  exact h h' _ F' N' ⟨tag, H'⟩
theorem wr_t_last (F : Fr h₀ L s.heap m) (X : (Mine.hd.heap_1 w.params).In h₀) (N : News h₀ L s.heap news) (hT : TreeIn w news S) (hx : S.x = S0.x) {i : Int} {t : Tok} {Q : Unit → Shared → Prop} (h : ∀ h' news', Fr h₀ L h' m → News h₀ L h' news' → TreeIn w news' { S with last := i } → Q () { s with heap := h', toks := s.toks + 2 }) :
    wpAny (model PySem.Challenge.rw_np0059_01.row.prog w) A (setAttr (.ref S0.x) (Str.ofString "last") (.int i t)) Q E s := by
  revert X; k_fill; intro X
  obtain ⟨tag, H⟩ := hT
  obtain ⟨j, h1⟩ := H.td
  have h0 := H.tx
  rw [← hx]
  k_dflt (refine' set_dict ?k1 ?k2 (news_turn N h1) ?k4 ?k5 ?k6 ?k7 ?k8 ?k9 ?k10 ?k11 upd_turn ?k13 ?_; (case k1 => k_asm); (case k2 => k_asm); (case k4 => exact InstAt.of_news N h0 h1); (case k5 => exact rfl); (case k6 => k_is); (case k7 => k_is); (case k8 => k_is); (case k9 => k_is); (case k10 => k_get); (case k11 => exact put_t_last w.params S 0 (S.W 0) j _ (_, _)); (case k13 => exact Nat.le_of_ble_eq_true rfl))
  intro h' F' N'
  exact h h' _ F' N' ⟨tag, H.setT i S.root S.selected { j with t := fun q => if q = 1 then t else j.t q }⟩
theorem wr_t_clock (F : Fr h₀ L s.heap m) (X : (Mine.hd.heap_1 w.params).In h₀) (N : News h₀ L s.heap news) (hT : TreeIn w news S) (hx : S.x = S0.x) {i : Int} {t : Tok} {Q : Unit → Shared → Prop} (h : ∀ h' news', Fr h₀ L h' m → News h₀ L h' news' → TreeIn w news' S → Q () { s with heap := h', toks := s.toks + 2 }) :
    wpAny (model PySem.Challenge.rw_np0059_01.row.prog w) A (setAttr (.ref S0.x) (Str.ofString "clock") (.int i t)) Q E s := by
  revert X; k_fill; intro X
  obtain ⟨tag, H⟩ := hT
  obtain ⟨j, h1⟩ := H.td
  have h0 := H.tx
  rw [← hx]
  k_dflt (refine' set_dict ?k1 ?k2 (news_turn N h1) ?k4 ?k5 ?k6 ?k7 ?k8 ?k9 ?k10 ?k11 upd_turn ?k13 ?_; (case k1 => k_asm); (case k2 => k_asm); (case k4 => exact InstAt.of_news N h0 h1); (case k5 => exact rfl); (case k6 => k_is); (case k7 => k_is); (case k8 => k_is); (case k9 => k_is); (case k10 => k_get); (case k11 => exact put_t_clock w.params S 0 (S.W 0) j _ (_, _)); (case k13 => exact Nat.le_of_ble_eq_true rfl))
  intro h' F' N'
  exact h h' _ F' N' ⟨tag, H.setT S.last S.root S.selected { j with t := fun q => if q = 2 then t else j.t q, b := fun q => if q = 2 then i else j.b q }⟩
theorem wr_t_root (F : Fr h₀ L s.heap m) (X : (Mine.hd.heap_1 w.params).In h₀) (N : News h₀ L s.heap news) (hT : TreeIn w news S) (hx : S.x = S0.x) {i : Int} {t : Tok} {Q : Unit → Shared → Prop} (h : ∀ h' news', Fr h₀ L h' m → News h₀ L h' news' → TreeIn w news' { S with root := i } → Q () { s with heap := h', toks := s.toks + 2 }) :
    wpAny (model PySem.Challenge.rw_np0059_01.row.prog w) A (setAttr (.ref S0.x) (Str.ofString "root") (.int i t)) Q E s := by
  revert X; k_fill; intro X
  obtain ⟨tag, H⟩ := hT
  obtain ⟨j, h1⟩ := H.td
  have h0 := H.tx
  rw [← hx]
  k_dflt (refine' set_dict ?k1 ?k2 (news_turn N h1) ?k4 ?k5 ?k6 ?k7 ?k8 ?k9 ?k10 ?k11 upd_turn ?k13 ?_; (case k1 => k_asm); (case k2 => k_asm); (case k4 => exact InstAt.of_news N h0 h1); (case k5 => exact rfl); (case k6 => k_is); (case k7 => k_is); (case k8 => k_is); (case k9 => k_is); (case k10 => k_get); (case k11 => exact put_t_root w.params S 0 (S.W 0) j _ (_, _)); (case k13 => exact Nat.le_of_ble_eq_true rfl))
  intro h' F' N'
  exact h h' _ F' N' ⟨tag, H.setT S.last i S.selected { j with t := fun q => if q = 5 then t else j.t q }⟩
theorem wr_t_selected (F : Fr h₀ L s.heap m) (X : (Mine.hd.heap_1 w.params).In h₀) (N : News h₀ L s.heap news) (hT : TreeIn w news S) (hx : S.x = S0.x) {i : Int} {t : Tok} {Q : Unit → Shared → Prop} (h : ∀ h' news', Fr h₀ L h' m → News h₀ L h' news' → TreeIn w news' { S with selected := i } → Q () { s with heap := h', toks := s.toks + 2 }) :
    wpAny (model PySem.Challenge.rw_np0059_01.row.prog w) A (setAttr (.ref S0.x) (Str.ofString "selected") (.int i t)) Q E s := by
  revert X; k_fill; intro X
  obtain ⟨tag, H⟩ := hT
  obtain ⟨j, h1⟩ := H.td
  have h0 := H.tx
  rw [← hx]
  k_dflt (refine' set_dict ?k1 ?k2 (news_turn N h1) ?k4 ?k5 ?k6 ?k7 ?k8 ?k9 ?k10 ?k11 upd_turn ?k13 ?_; (case k1 => k_asm); (case k2 => k_asm); (case k4 => exact InstAt.of_news N h0 h1); (case k5 => exact rfl); (case k6 => k_is); (case k7 => k_is); (case k8 => k_is); (case k9 => k_is); (case k10 => k_get); (case k11 => exact put_t_selected w.params S 0 (S.W 0) j _ (_, _)); (case k13 => exact Nat.le_of_ble_eq_true rfl))
  intro h' F' N'
  exact h h' _ F' N' ⟨tag, H.setT S.last S.root i { j with t := fun q => if q = 6 then t else j.t q }⟩
theorem wr_children (F : Fr h₀ L s.heap m) (X : (Mine.hd.heap_1 w.params).In h₀) (N : News h₀ L s.heap news) (hT : TreeIn w news S) (hn : n ∈ S.dom) (hA : S.A n = S0.A n) {c : Addr} {vs : List Value} {k : Nat} {ks : List Int} (hm : (c, listOf vs.toArray k) ∈ S.ex) (hi : IntsAre vs ks) {Q : Unit → Shared → Prop} (h : ∀ h' news', Fr h₀ L h' m → News h₀ L h' news' → TreeIn w news' { S with W := upd S.W n { S.W n with c := c, kids := ks }, ex := off c S.ex } → Q () { s with heap := h', toks := s.toks + 2 }) :
    wpAny (model PySem.Challenge.rw_np0059_01.row.prog w) A (setAttr (.ref (S0.A n).x) (Str.ofString "children") (.ref c)) Q E s := by
  revert X; k_fill; intro X
  obtain ⟨tag, H⟩ := hT
  obtain ⟨j, h1, he, hg⟩ := H.wd n hn
  have h0 := H.wx n hn
  rw [← hA]
  k_dflt (refine' set_dict ?k1 ?k2 (news_turn N h1) ?k4 ?k5 ?k6 ?k7 ?k8 ?k9 ?k10 ?k11 upd_turn ?k13 ?_; (case k1 => k_asm); (case k2 => k_asm); (case k4 => exact InstAt.of_news N h0 h1); (case k5 => exact rfl); (case k6 => k_is); (case k7 => k_is); (case k8 => k_is); (case k9 => k_is); (case k10 => k_get); (case k11 => exact put_children w.params S n (S.W n) j _ (c, (0 : Nat))); (case k13 => exact Nat.le_of_ble_eq_true rfl))
  intro h' F' N'
  exact h h' _ F' N' ⟨_, H.setC hn hm hi j he hg⟩
end
end
section
open PySem PySem.W PyProof.Rows PySem.Calls PySem.Spec PyProof.V
section
variable {w : World} {A : Around} {E : Value → Shared → Prop} {s : Shared} {h₀ : Heap} {L : Addr} {m : Str → Option Value} {news : Led} {S S0 : TS} {n : Int} {t : Tok}
theorem it_tail {value slice : Expr} {Q : Value → Shared → Prop} (N : News h₀ L s.heap news) (hT : TreeIn w news S) (h : wpAny (model PySem.Challenge.rw_np0059_01.row.prog w) A (getItem (.ref S.w) (.int n t)) Q E s)
    (hs : subscripted slice false (.ref S.w) (.int n t) = operate [.ref S.w, .int n t] (getItem (.ref S.w) (.int n t))) :
    wpAny (model PySem.Challenge.rw_np0059_01.row.prog w) A (subscriptTail value slice (.ref S.w) (.int n t)) Q E s := by
  obtain ⟨wo, kvs, hm, hd, hl, hk⟩ := hT.tw
  exact kdt_tail (knd := ik w) N hm hd h hs
theorem it_get {Q : Value → Shared → Prop} (N : News h₀ L s.heap news) (hT : TreeIn w news S) (hn : n ∈ S.dom) (h : Q (.ref (S.A n).x) { s with toks := s.toks + 1 }) :
    wpAny (model PySem.Challenge.rw_np0059_01.row.prog w) A (getItem (.ref S.w) (.int n t)) Q E s := by
  obtain ⟨wo, kvs, hm, hd, hl, hk⟩ := hT.tw
  exact kdt_getItem (knd := ik w) N hm hd (intKind_is _ _ _ _) (hk n hn) h
theorem it_getm {pl : Sem Bool} {Q : Value × List Value → Shared → Prop} (N : News h₀ L s.heap news) (hT : TreeIn w news S) (h : Q (.builtin "dict.get", [.ref S.w]) s) : wpAny (model PySem.Challenge.rw_np0059_01.row.prog w) A (getMethod (.ref S.w) (Str.ofString "get") pl) Q E s := by
  obtain ⟨wo, kvs, hm, hd, hl, hk⟩ := hT.tw
  exact kdg_method (knd := ik w) N hm hd h
theorem it_get2 {dflt : Value} {Q : Value → Shared → Prop} (N : News h₀ L s.heap news) (hT : TreeIn w news S) (hn : n ∈ S.dom) (h : Q (.ref (S.A n).x) { s with toks := s.toks + 1 }) :
    wpAny (model PySem.Challenge.rw_np0059_01.row.prog w) A (call (.builtin "dict.get") [.ref S.w, .int n t, dflt]) Q E s := by
  obtain ⟨wo, kvs, hm, hd, hl, hk⟩ := hT.tw
  exact kdg_get2 (knd := ik w) N hm hd hT.lo (intKind_is _ _ _ _) _ (hk n hn) h
end
end
section
open PySem PySem.W PyProof.Rows PySem.Calls PySem.Spec PyProof.V
/-- a forest of numbers: the first tree's root, its children, the trees beside it -/
inductive Fo where
  | nil
  | cons (n : Int) (k : Fo) (s : Fo)
namespace Fo
def nums : Fo → List Int
  | nil => []
  | cons n _ s => n :: s.nums
def all : Fo → List Int
  | nil => []
  | cons n k s => n :: (k.all ++ s.all)
def leaves (W : Int → WR) : Fo → List Int
  | nil => []
  | cons n k s => (if (W n).sort = 0 then [n] else k.leaves W) ++ s.leaves W
def size : Fo → Nat
  | nil => 0
  | cons _ k s => 1 + k.size + s.size
def app : Fo → Fo → Fo
  | nil, g => g
  | cons n k s, g => cons n k (s.app g)
/-- the records speak of the forest -/
def Ok (W : Int → WR) : Fo → Prop
  | nil => True
  | cons n k s => (W n).kids = k.nums ∧ ((W n).sort = 0 → k = nil) ∧ k.Ok W ∧ s.Ok W
theorem nums_app : ∀ f g : Fo, (f.app g).nums = f.nums ++ g.nums
  | nil, _ => rfl
  | cons _ _ s, g => by simp [app, nums, nums_app s g]
theorem leaves_app (W : Int → WR) : ∀ f g : Fo, (f.app g).leaves W = f.leaves W ++ g.leaves W
  | nil, _ => rfl
  | cons _ _ s, g => by simp [app, leaves, leaves_app W s g]
theorem size_app : ∀ f g : Fo, (f.app g).size = f.size + g.size
  | nil, g => by simp [app, size]
  | cons _ k s, g => by simp only [app, size, size_app s g]; lia
theorem all_app : ∀ f g : Fo, (f.app g).all = f.all ++ g.all
  | nil, _ => rfl
  | cons _ k s, g => by simp [app, all, all_app s g]
theorem ok_app {W : Int → WR} : ∀ {f g : Fo}, f.Ok W → g.Ok W → (f.app g).Ok W
  | nil, _, _, h => h
  | cons _ _ _, _, ⟨a, b, c, d⟩, h => ⟨a, b, c, ok_app d h⟩
theorem nums_le : ∀ f : Fo, f.nums.length ≤ f.size
  | .nil => Nat.le_refl _
  | .cons _ _ s => by have := nums_le s; simp only [Fo.nums, Fo.size, List.length_cons]; lia
theorem leaves_le (W : Int → WR) : ∀ f : Fo, (f.leaves W).length ≤ f.size
  | .nil => Nat.le_refl _
  | .cons r k s => by
    have := leaves_le W s
    have := leaves_le W k
    simp only [Fo.leaves, Fo.size, List.length_append]
    split <;> simp <;> lia
theorem leaves_all (W : Int → WR) : ∀ f : Fo, ∀ n ∈ f.leaves W, n ∈ f.all
  | .nil, _, h => h
  | .cons r k s, n, h => by
    rcases List.mem_append.mp h with h | h
    · split at h
      · rw [List.mem_singleton.mp h]; exact .head _
      · exact .tail _ (List.mem_append.mpr (.inl (leaves_all W k n h)))
    · exact .tail _ (List.mem_append.mpr (.inr (leaves_all W s n h)))
theorem leaves_sort (W : Int → WR) : ∀ f : Fo, ∀ n ∈ f.leaves W, (W n).sort = 0
  | .nil, _, h => nomatch h
  | .cons r k s, n, h => by
    rcases List.mem_append.mp h with h | h
    · split at h
      · rename_i e; rw [List.mem_singleton.mp h]; exact e
      · exact leaves_sort W k n h
    · exact leaves_sort W s n h
end Fo
def Lv (S : TS) (lv : List Int) : Prop := ∃ r k, (Fo.cons r k .nil).Ok S.W ∧ (∀ q ∈ (Fo.cons r k .nil).all, q ∈ S.dom) ∧ (Fo.cons r k .nil).size ≤ 1000 ∧ r = S.root ∧ lv = (Fo.cons r k .nil).leaves S.W
theorem Lv.len {S : TS} {lv : List Int} (h : Lv S lv) : lv.length ≤ 1000 := by
  obtain ⟨r, k, _, _, h3, _, rfl⟩ := h
  exact Nat.le_trans (Fo.leaves_le _ _) h3
theorem Lv.dom {S : TS} {lv : List Int} (h : Lv S lv) : ∀ q ∈ lv, q ∈ S.dom := by
  obtain ⟨r, k, _, h2, _, _, rfl⟩ := h
  exact fun q hq => h2 q (Fo.leaves_all _ _ q hq)
theorem Lv.sort {S : TS} {lv : List Int} (h : Lv S lv) : ∀ q ∈ lv, (S.W q).sort = 0 := by
  obtain ⟨r, k, _, h2, _, _, rfl⟩ := h
  exact fun q hq => Fo.leaves_sort _ _ q hq
theorem ints_at {vs : List Value} {lv : List Int} (hi : IntsAre vs lv) {i : Nat} {v : Value} (hv : vs[i]? = some v) : ∃ n t, lv[i]? = some n ∧ v = .int n t := by
  have hl := hi.length
  have hlt : i < vs.length := by
    by_cases h : i < vs.length
    · exact h
    · rw [List.getElem?_eq_none (by lia)] at hv; cases hv
  have hlt' : i < lv.length := by lia
  obtain ⟨t, hx⟩ := hi.get i lv[i] (by simp [hlt'])
  rw [hv] at hx
  exact ⟨lv[i], t, by simp [hlt'], Option.some.inj hx⟩
theorem lt_of_get {α : Type} {l : List α} {i : Nat} {r : α} (h : l[i]? = some r) : i < l.length := by
  by_cases h' : i < l.length
  · exact h'
  · rw [List.getElem?_eq_none (by lia)] at h; cases h
theorem find_step {α : Type} {l : List α} {p : α → Bool} {i : Nat} {r : α} (hr : l[i]? = some r) (hp : p r = false) (h : l.find? p = (l.drop i).find? p) : l.find? p = (l.drop (i + 1)).find? p := by
  rw [h, List.drop_eq_getElem?_toList_append, hr]
  simp [hp]
theorem find_hit {α : Type} {l : List α} {p : α → Bool} {i : Nat} {r : α} (hr : l[i]? = some r) (hp : p r = true) (h : l.find? p = (l.drop i).find? p) : l.find? p = some r := by
  rw [h, List.drop_eq_getElem?_toList_append, hr]
  simp [hp]
theorem take_step {α : Type} {l : List α} {i : Nat} {r : α} (h : l[i]? = some r) : l.take (i + 1) = l.take i ++ [r] := by
  rw [List.take_add_one, h]; rfl
def covers (W : Int → WR) (col row : Int) (n : Int) : Bool := decide ((W n).left ≤ col ∧ col < (W n).left + (W n).width ∧ (W n).top ≤ row ∧ row < (W n).top + (W n).height)
def cellOf (W : Int → WR) (lv : List Int) (col row : Int) : Int := (lv.find? (covers W col row)).getD 0
def cellOne (W : Int → WR) (lv : List Int) (col row : Int) : Int := match lv.filter (covers W col row) with
  | [r] => r
  | _ => 0
def ringAt (lv : List Int) (i : Nat) (cnt : Int) : Int := lv.getD (((i : Int) + cnt).fmod lv.length).toNat 0
end
section
open PySem PySem.W PyProof.Rows PySem.Calls PySem.Spec PyProof.V
/-- what a step on a window asks -/
structure RP (w : World) (h₀ : Heap) (L : Addr) (hp : Heap) (m : Str → Option Value) (news : Led) (S S0 : TS) (n : Int) : Prop where
  F : Fr h₀ L hp m
  X : (Mine.hd.heap_1 w.params).In h₀
  N : News h₀ L hp news
  T : TreeIn w news S
  c : n ∈ S.dom
  A : S.A n = S0.A n
/-- what a step on the tree asks -/
structure RT (w : World) (h₀ : Heap) (L : Addr) (hp : Heap) (m : Str → Option Value) (news : Led) (S S0 : TS) : Prop where
  F : Fr h₀ L hp m
  X : (Mine.hd.heap_1 w.params).In h₀
  N : News h₀ L hp news
  T : TreeIn w news S
  x : S.x = S0.x
  d : S.d = S0.d
structure CB (w : World) (mean : ExcName → Option Value) (mg mb : Str → Option Value) (A₀ : Around) (base : Heap) (outer : List Env) (h₀ : Heap) (L : Addr) (hp : Heap) (m : Str → Option Value) (news : Led) : Prop where
  B : Below A₀ base outer h₀
  F : Fr h₀ L hp m
  X : (Mine.hd.heap_1 w.params).In h₀
  N : News h₀ L hp news
  T : Top Mine.view (looseW Mine.view Mine.loose) mean mg mb h₀
structure RX (w : World) (h₀ : Heap) (L : Addr) (hp : Heap) (m : Str → Option Value) (news : Led) (S S0 : TS) : Prop where
  F : Fr h₀ L hp m
  X : (Mine.hd.heap_1 w.params).In h₀
  N : News h₀ L hp news
  T : TreeIn w news S
  x : S.x = S0.x
section
variable {zw : World} {zA : Around} {zE : Value → Shared → Prop} {zh₀ zhp : Heap} {zL : Addr} {zm : Str → Option Value} {znews : Led} {zS zS0 : TS} {zn : Int} {zexpr : Bool} {zpl : Sem Bool} {zgs : Array GenState} {zdr : Drawn} {ztk : Nat} {zos : OsState}
theorem rs_number (zP : RP zw zh₀ zL zhp zm znews zS zS0 zn) {zQ : Value → Shared → Prop} (zh : ∀ zt zk, zQ (.int zn zt) ⟨zhp, zgs, zdr, zk, zos⟩) :
    wpAny (model PySem.Challenge.rw_np0059_01.row.prog zw) zA (getAttr (.ref (zS0.A zn).x) (Str.ofString "number") zexpr) zQ zE ⟨zhp, zgs, zdr, ztk, zos⟩ :=
  rd_number (s := ⟨zhp, zgs, zdr, ztk, zos⟩) zP.F zP.X zP.N zP.T zP.c zP.A fun zt => zh zt _
theorem rs_sort (zP : RP zw zh₀ zL zhp zm znews zS zS0 zn) {zQ : Value → Shared → Prop} (zh : ∀ zt zk, zQ (.int (zS.W zn).sort zt) ⟨zhp, zgs, zdr, zk, zos⟩) :
    wpAny (model PySem.Challenge.rw_np0059_01.row.prog zw) zA (getAttr (.ref (zS0.A zn).x) (Str.ofString "sort") zexpr) zQ zE ⟨zhp, zgs, zdr, ztk, zos⟩ :=
  rd_sort (s := ⟨zhp, zgs, zdr, ztk, zos⟩) zP.F zP.X zP.N zP.T zP.c zP.A fun zt => zh zt _
theorem rs_parent (zP : RP zw zh₀ zL zhp zm znews zS zS0 zn) {zQ : Value → Shared → Prop} (zh : ∀ zt zk, zQ (.int (zS.W zn).parent zt) ⟨zhp, zgs, zdr, zk, zos⟩) :
    wpAny (model PySem.Challenge.rw_np0059_01.row.prog zw) zA (getAttr (.ref (zS0.A zn).x) (Str.ofString "parent") zexpr) zQ zE ⟨zhp, zgs, zdr, ztk, zos⟩ :=
  rd_parent (s := ⟨zhp, zgs, zdr, ztk, zos⟩) zP.F zP.X zP.N zP.T zP.c zP.A fun zt => zh zt _
theorem rs_left (zP : RP zw zh₀ zL zhp zm znews zS zS0 zn) {zQ : Value → Shared → Prop} (zh : ∀ zt zk, zQ (.int (zS.W zn).left zt) ⟨zhp, zgs, zdr, zk, zos⟩) :
    wpAny (model PySem.Challenge.rw_np0059_01.row.prog zw) zA (getAttr (.ref (zS0.A zn).x) (Str.ofString "left") zexpr) zQ zE ⟨zhp, zgs, zdr, ztk, zos⟩ :=
  rd_left (s := ⟨zhp, zgs, zdr, ztk, zos⟩) zP.F zP.X zP.N zP.T zP.c zP.A fun zt => zh zt _
theorem rs_top (zP : RP zw zh₀ zL zhp zm znews zS zS0 zn) {zQ : Value → Shared → Prop} (zh : ∀ zt zk, zQ (.int (zS.W zn).top zt) ⟨zhp, zgs, zdr, zk, zos⟩) :
    wpAny (model PySem.Challenge.rw_np0059_01.row.prog zw) zA (getAttr (.ref (zS0.A zn).x) (Str.ofString "top") zexpr) zQ zE ⟨zhp, zgs, zdr, ztk, zos⟩ :=
  rd_top (s := ⟨zhp, zgs, zdr, ztk, zos⟩) zP.F zP.X zP.N zP.T zP.c zP.A fun zt => zh zt _
theorem rs_width (zP : RP zw zh₀ zL zhp zm znews zS zS0 zn) {zQ : Value → Shared → Prop} (zh : ∀ zt zk, zQ (.int (zS.W zn).width zt) ⟨zhp, zgs, zdr, zk, zos⟩) :
    wpAny (model PySem.Challenge.rw_np0059_01.row.prog zw) zA (getAttr (.ref (zS0.A zn).x) (Str.ofString "width") zexpr) zQ zE ⟨zhp, zgs, zdr, ztk, zos⟩ :=
  rd_width (s := ⟨zhp, zgs, zdr, ztk, zos⟩) zP.F zP.X zP.N zP.T zP.c zP.A fun zt => zh zt _
theorem rs_height (zP : RP zw zh₀ zL zhp zm znews zS zS0 zn) {zQ : Value → Shared → Prop} (zh : ∀ zt zk, zQ (.int (zS.W zn).height zt) ⟨zhp, zgs, zdr, zk, zos⟩) :
    wpAny (model PySem.Challenge.rw_np0059_01.row.prog zw) zA (getAttr (.ref (zS0.A zn).x) (Str.ofString "height") zexpr) zQ zE ⟨zhp, zgs, zdr, ztk, zos⟩ :=
  rd_height (s := ⟨zhp, zgs, zdr, ztk, zos⟩) zP.F zP.X zP.N zP.T zP.c zP.A fun zt => zh zt _
theorem rs_buffer (zP : RP zw zh₀ zL zhp zm znews zS zS0 zn) {zQ : Value → Shared → Prop} (zh : ∀ zi zt zk, zQ (.int zi zt) ⟨zhp, zgs, zdr, zk, zos⟩) :
    wpAny (model PySem.Challenge.rw_np0059_01.row.prog zw) zA (getAttr (.ref (zS0.A zn).x) (Str.ofString "buffer") zexpr) zQ zE ⟨zhp, zgs, zdr, ztk, zos⟩ :=
  rd_buffer (s := ⟨zhp, zgs, zdr, ztk, zos⟩) zP.F zP.X zP.N zP.T zP.c zP.A fun zi zt => zh zi zt _
theorem rs_start (zP : RP zw zh₀ zL zhp zm znews zS zS0 zn) {zQ : Value → Shared → Prop} (zh : ∀ zi zt zk, zQ (.int zi zt) ⟨zhp, zgs, zdr, zk, zos⟩) :
    wpAny (model PySem.Challenge.rw_np0059_01.row.prog zw) zA (getAttr (.ref (zS0.A zn).x) (Str.ofString "start") zexpr) zQ zE ⟨zhp, zgs, zdr, ztk, zos⟩ :=
  rd_start (s := ⟨zhp, zgs, zdr, ztk, zos⟩) zP.F zP.X zP.N zP.T zP.c zP.A fun zi zt => zh zi zt _
theorem rs_point (zP : RP zw zh₀ zL zhp zm znews zS zS0 zn) {zQ : Value → Shared → Prop} (zh : ∀ zi zt zk, zQ (.int zi zt) ⟨zhp, zgs, zdr, zk, zos⟩) :
    wpAny (model PySem.Challenge.rw_np0059_01.row.prog zw) zA (getAttr (.ref (zS0.A zn).x) (Str.ofString "point") zexpr) zQ zE ⟨zhp, zgs, zdr, ztk, zos⟩ :=
  rd_point (s := ⟨zhp, zgs, zdr, ztk, zos⟩) zP.F zP.X zP.N zP.T zP.c zP.A fun zi zt => zh zi zt _
theorem rs_hscroll (zP : RP zw zh₀ zL zhp zm znews zS zS0 zn) {zQ : Value → Shared → Prop} (zh : ∀ zi zt zk, zQ (.int zi zt) ⟨zhp, zgs, zdr, zk, zos⟩) :
    wpAny (model PySem.Challenge.rw_np0059_01.row.prog zw) zA (getAttr (.ref (zS0.A zn).x) (Str.ofString "hscroll") zexpr) zQ zE ⟨zhp, zgs, zdr, ztk, zos⟩ :=
  rd_hscroll (s := ⟨zhp, zgs, zdr, ztk, zos⟩) zP.F zP.X zP.N zP.T zP.c zP.A fun zi zt => zh zi zt _
theorem rs_children (zP : RP zw zh₀ zL zhp zm znews zS zS0 zn) {zQ : Value → Shared → Prop} (zh : ∀ zk, zQ (.ref (zS.W zn).c) ⟨zhp, zgs, zdr, zk, zos⟩) :
    wpAny (model PySem.Challenge.rw_np0059_01.row.prog zw) zA (getAttr (.ref (zS0.A zn).x) (Str.ofString "children") zexpr) zQ zE ⟨zhp, zgs, zdr, ztk, zos⟩ :=
  rd_children (s := ⟨zhp, zgs, zdr, ztk, zos⟩) zP.F zP.X zP.N zP.T zP.c zP.A (zh _)
theorem rs_earlier (zP : RP zw zh₀ zL zhp zm znews zS zS0 zn) {zQ : Value → Shared → Prop} (zh : ∀ ze zz, (ze, listOf #[] zz) ∈ znews → ∀ zk, zQ (.ref ze) ⟨zhp, zgs, zdr, zk, zos⟩) :
    wpAny (model PySem.Challenge.rw_np0059_01.row.prog zw) zA (getAttr (.ref (zS0.A zn).x) (Str.ofString "earlier") zexpr) zQ zE ⟨zhp, zgs, zdr, ztk, zos⟩ :=
  rd_earlier (s := ⟨zhp, zgs, zdr, ztk, zos⟩) zP.F zP.X zP.N zP.T zP.c zP.A fun ze zz he => zh ze zz he _
theorem rs_t_last (zP : RT zw zh₀ zL zhp zm znews zS zS0) {zQ : Value → Shared → Prop} (zh : ∀ zt zk, zQ (.int (zS.last) zt) ⟨zhp, zgs, zdr, zk, zos⟩) :
    wpAny (model PySem.Challenge.rw_np0059_01.row.prog zw) zA (getAttr (.ref zS0.x) (Str.ofString "last") zexpr) zQ zE ⟨zhp, zgs, zdr, ztk, zos⟩ :=
  rd_t_last (s := ⟨zhp, zgs, zdr, ztk, zos⟩) zP.F zP.X zP.N zP.T zP.x zP.d fun zt => zh zt _
theorem rs_t_root (zP : RT zw zh₀ zL zhp zm znews zS zS0) {zQ : Value → Shared → Prop} (zh : ∀ zt zk, zQ (.int (zS.root) zt) ⟨zhp, zgs, zdr, zk, zos⟩) :
    wpAny (model PySem.Challenge.rw_np0059_01.row.prog zw) zA (getAttr (.ref zS0.x) (Str.ofString "root") zexpr) zQ zE ⟨zhp, zgs, zdr, ztk, zos⟩ :=
  rd_t_root (s := ⟨zhp, zgs, zdr, ztk, zos⟩) zP.F zP.X zP.N zP.T zP.x zP.d fun zt => zh zt _
theorem rs_t_selected (zP : RT zw zh₀ zL zhp zm znews zS zS0) {zQ : Value → Shared → Prop} (zh : ∀ zt zk, zQ (.int (zS.selected) zt) ⟨zhp, zgs, zdr, zk, zos⟩) :
    wpAny (model PySem.Challenge.rw_np0059_01.row.prog zw) zA (getAttr (.ref zS0.x) (Str.ofString "selected") zexpr) zQ zE ⟨zhp, zgs, zdr, ztk, zos⟩ :=
  rd_t_selected (s := ⟨zhp, zgs, zdr, ztk, zos⟩) zP.F zP.X zP.N zP.T zP.x zP.d fun zt => zh zt _
theorem rs_t_least_width (zP : RT zw zh₀ zL zhp zm znews zS zS0) {zQ : Value → Shared → Prop} (zh : ∀ zt zk, zQ (.int (3) zt) ⟨zhp, zgs, zdr, zk, zos⟩) :
    wpAny (model PySem.Challenge.rw_np0059_01.row.prog zw) zA (getAttr (.ref zS0.x) (Str.ofString "least_width") zexpr) zQ zE ⟨zhp, zgs, zdr, ztk, zos⟩ :=
  rd_t_least_width (s := ⟨zhp, zgs, zdr, ztk, zos⟩) zP.F zP.X zP.N zP.T zP.x zP.d fun zt => zh zt _
theorem rs_t_least_height (zP : RT zw zh₀ zL zhp zm znews zS zS0) {zQ : Value → Shared → Prop} (zh : ∀ zt zk, zQ (.int (2) zt) ⟨zhp, zgs, zdr, zk, zos⟩) :
    wpAny (model PySem.Challenge.rw_np0059_01.row.prog zw) zA (getAttr (.ref zS0.x) (Str.ofString "least_height") zexpr) zQ zE ⟨zhp, zgs, zdr, ztk, zos⟩ :=
  rd_t_least_height (s := ⟨zhp, zgs, zdr, ztk, zos⟩) zP.F zP.X zP.N zP.T zP.x zP.d fun zt => zh zt _
theorem rs_t_clock (zP : RT zw zh₀ zL zhp zm znews zS zS0) {zQ : Value → Shared → Prop} (zh : ∀ zi zt zk, zQ (.int zi zt) ⟨zhp, zgs, zdr, zk, zos⟩) :
    wpAny (model PySem.Challenge.rw_np0059_01.row.prog zw) zA (getAttr (.ref zS0.x) (Str.ofString "clock") zexpr) zQ zE ⟨zhp, zgs, zdr, ztk, zos⟩ :=
  rd_t_clock (s := ⟨zhp, zgs, zdr, ztk, zos⟩) zP.F zP.X zP.N zP.T zP.x zP.d fun zi zt => zh zi zt _
theorem rs_t_windows (zP : RT zw zh₀ zL zhp zm znews zS zS0) {zQ : Value → Shared → Prop} (zh : ∀ zk, zQ (.ref zS.w) ⟨zhp, zgs, zdr, zk, zos⟩) :
    wpAny (model PySem.Challenge.rw_np0059_01.row.prog zw) zA (getAttr (.ref zS0.x) (Str.ofString "windows") zexpr) zQ zE ⟨zhp, zgs, zdr, ztk, zos⟩ :=
  rd_t_windows (s := ⟨zhp, zgs, zdr, ztk, zos⟩) zP.F zP.X zP.N zP.T zP.x zP.d (zh _)
theorem ms_size (zP : RP zw zh₀ zL zhp zm znews zS zS0 zn) {zQ : Value × List Value → Shared → Prop} (zh : zQ (.ref 62, [.ref (zS0.A zn).x]) ⟨zhp, zgs, zdr, ztk, zos⟩) :
    wpAny (model PySem.Challenge.rw_np0059_01.row.prog zw) zA (getMethod (.ref (zS0.A zn).x) (Str.ofString "size") zpl) zQ zE ⟨zhp, zgs, zdr, ztk, zos⟩ :=
  md_size (s := ⟨zhp, zgs, zdr, ztk, zos⟩) zP.F zP.X zP.N zP.T zP.c zP.A zh
theorem ms_set_size (zP : RP zw zh₀ zL zhp zm znews zS zS0 zn) {zQ : Value × List Value → Shared → Prop} (zh : zQ (.ref 69, [.ref (zS0.A zn).x]) ⟨zhp, zgs, zdr, ztk, zos⟩) :
    wpAny (model PySem.Challenge.rw_np0059_01.row.prog zw) zA (getMethod (.ref (zS0.A zn).x) (Str.ofString "set_size") zpl) zQ zE ⟨zhp, zgs, zdr, ztk, zos⟩ :=
  md_set_size (s := ⟨zhp, zgs, zdr, ztk, zos⟩) zP.F zP.X zP.N zP.T zP.c zP.A zh
theorem ms_place (zP : RP zw zh₀ zL zhp zm znews zS zS0 zn) {zQ : Value × List Value → Shared → Prop} (zh : zQ (.ref 76, [.ref (zS0.A zn).x]) ⟨zhp, zgs, zdr, ztk, zos⟩) :
    wpAny (model PySem.Challenge.rw_np0059_01.row.prog zw) zA (getMethod (.ref (zS0.A zn).x) (Str.ofString "place") zpl) zQ zE ⟨zhp, zgs, zdr, ztk, zos⟩ :=
  md_place (s := ⟨zhp, zgs, zdr, ztk, zos⟩) zP.F zP.X zP.N zP.T zP.c zP.A zh
theorem ms_shown (zP : RP zw zh₀ zL zhp zm znews zS zS0 zn) {zQ : Value × List Value → Shared → Prop} (zh : zQ (.ref 83, [.ref (zS0.A zn).x]) ⟨zhp, zgs, zdr, ztk, zos⟩) :
    wpAny (model PySem.Challenge.rw_np0059_01.row.prog zw) zA (getMethod (.ref (zS0.A zn).x) (Str.ofString "shown") zpl) zQ zE ⟨zhp, zgs, zdr, ztk, zos⟩ :=
  md_shown (s := ⟨zhp, zgs, zdr, ztk, zos⟩) zP.F zP.X zP.N zP.T zP.c zP.A zh
theorem ms_show (zP : RP zw zh₀ zL zhp zm znews zS zS0 zn) {zQ : Value × List Value → Shared → Prop} (zh : zQ (.ref 90, [.ref (zS0.A zn).x]) ⟨zhp, zgs, zdr, ztk, zos⟩) :
    wpAny (model PySem.Challenge.rw_np0059_01.row.prog zw) zA (getMethod (.ref (zS0.A zn).x) (Str.ofString "show") zpl) zQ zE ⟨zhp, zgs, zdr, ztk, zos⟩ :=
  md_show (s := ⟨zhp, zgs, zdr, ztk, zos⟩) zP.F zP.X zP.N zP.T zP.c zP.A zh
theorem ms_t_fresh (zP : RT zw zh₀ zL zhp zm znews zS zS0) {zQ : Value × List Value → Shared → Prop} (zh : zQ (.ref 119, [.ref zS0.x]) ⟨zhp, zgs, zdr, ztk, zos⟩) :
    wpAny (model PySem.Challenge.rw_np0059_01.row.prog zw) zA (getMethod (.ref zS0.x) (Str.ofString "fresh") zpl) zQ zE ⟨zhp, zgs, zdr, ztk, zos⟩ :=
  md_t_fresh (s := ⟨zhp, zgs, zdr, ztk, zos⟩) zP.F zP.X zP.N zP.T zP.x zP.d zh
theorem ms_t_window (zP : RT zw zh₀ zL zhp zm znews zS zS0) {zQ : Value × List Value → Shared → Prop} (zh : zQ (.ref 126, [.ref zS0.x]) ⟨zhp, zgs, zdr, ztk, zos⟩) :
    wpAny (model PySem.Challenge.rw_np0059_01.row.prog zw) zA (getMethod (.ref zS0.x) (Str.ofString "window") zpl) zQ zE ⟨zhp, zgs, zdr, ztk, zos⟩ :=
  md_t_window (s := ⟨zhp, zgs, zdr, ztk, zos⟩) zP.F zP.X zP.N zP.T zP.x zP.d zh
theorem ms_t_leaf (zP : RT zw zh₀ zL zhp zm znews zS zS0) {zQ : Value × List Value → Shared → Prop} (zh : zQ (.ref 133, [.ref zS0.x]) ⟨zhp, zgs, zdr, ztk, zos⟩) :
    wpAny (model PySem.Challenge.rw_np0059_01.row.prog zw) zA (getMethod (.ref zS0.x) (Str.ofString "leaf") zpl) zQ zE ⟨zhp, zgs, zdr, ztk, zos⟩ :=
  md_t_leaf (s := ⟨zhp, zgs, zdr, ztk, zos⟩) zP.F zP.X zP.N zP.T zP.x zP.d zh
theorem ms_t_touch (zP : RT zw zh₀ zL zhp zm znews zS zS0) {zQ : Value × List Value → Shared → Prop} (zh : zQ (.ref 140, [.ref zS0.x]) ⟨zhp, zgs, zdr, ztk, zos⟩) :
    wpAny (model PySem.Challenge.rw_np0059_01.row.prog zw) zA (getMethod (.ref zS0.x) (Str.ofString "touch") zpl) zQ zE ⟨zhp, zgs, zdr, ztk, zos⟩ :=
  md_t_touch (s := ⟨zhp, zgs, zdr, ztk, zos⟩) zP.F zP.X zP.N zP.T zP.x zP.d zh
theorem ms_t_select (zP : RT zw zh₀ zL zhp zm znews zS zS0) {zQ : Value × List Value → Shared → Prop} (zh : zQ (.ref 147, [.ref zS0.x]) ⟨zhp, zgs, zdr, ztk, zos⟩) :
    wpAny (model PySem.Challenge.rw_np0059_01.row.prog zw) zA (getMethod (.ref zS0.x) (Str.ofString "select") zpl) zQ zE ⟨zhp, zgs, zdr, ztk, zos⟩ :=
  md_t_select (s := ⟨zhp, zgs, zdr, ztk, zos⟩) zP.F zP.X zP.N zP.T zP.x zP.d zh
theorem ms_t_least_leaf (zP : RT zw zh₀ zL zhp zm znews zS zS0) {zQ : Value × List Value → Shared → Prop} (zh : zQ (.ref 154, [.ref zS0.x]) ⟨zhp, zgs, zdr, ztk, zos⟩) :
    wpAny (model PySem.Challenge.rw_np0059_01.row.prog zw) zA (getMethod (.ref zS0.x) (Str.ofString "least_leaf") zpl) zQ zE ⟨zhp, zgs, zdr, ztk, zos⟩ :=
  md_t_least_leaf (s := ⟨zhp, zgs, zdr, ztk, zos⟩) zP.F zP.X zP.N zP.T zP.x zP.d zh
theorem ws_parent (zP : RP zw zh₀ zL zhp zm znews zS zS0 zn) {zi : Int} {zt : Tok} {zQ : Unit → Shared → Prop} (zh : ∀ h' news' zk, Fr zh₀ zL h' zm → News zh₀ zL h' news' → TreeIn zw news' { zS with W := upd zS.W zn { zS.W zn with parent := zi } } → zQ () ⟨h', zgs, zdr, zk, zos⟩) :
    wpAny (model PySem.Challenge.rw_np0059_01.row.prog zw) zA (setAttr (.ref (zS0.A zn).x) (Str.ofString "parent") (.int zi zt)) zQ zE ⟨zhp, zgs, zdr, ztk, zos⟩ :=
  wr_parent (s := ⟨zhp, zgs, zdr, ztk, zos⟩) zP.F zP.X zP.N zP.T zP.c zP.A fun h' news' => zh h' news' _
theorem ws_left (zP : RP zw zh₀ zL zhp zm znews zS zS0 zn) {zi : Int} {zt : Tok} {zQ : Unit → Shared → Prop} (zh : ∀ h' news' zk, Fr zh₀ zL h' zm → News zh₀ zL h' news' → TreeIn zw news' { zS with W := upd zS.W zn { zS.W zn with left := zi } } → zQ () ⟨h', zgs, zdr, zk, zos⟩) :
    wpAny (model PySem.Challenge.rw_np0059_01.row.prog zw) zA (setAttr (.ref (zS0.A zn).x) (Str.ofString "left") (.int zi zt)) zQ zE ⟨zhp, zgs, zdr, ztk, zos⟩ :=
  wr_left (s := ⟨zhp, zgs, zdr, ztk, zos⟩) zP.F zP.X zP.N zP.T zP.c zP.A fun h' news' => zh h' news' _
theorem ws_top (zP : RP zw zh₀ zL zhp zm znews zS zS0 zn) {zi : Int} {zt : Tok} {zQ : Unit → Shared → Prop} (zh : ∀ h' news' zk, Fr zh₀ zL h' zm → News zh₀ zL h' news' → TreeIn zw news' { zS with W := upd zS.W zn { zS.W zn with top := zi } } → zQ () ⟨h', zgs, zdr, zk, zos⟩) :
    wpAny (model PySem.Challenge.rw_np0059_01.row.prog zw) zA (setAttr (.ref (zS0.A zn).x) (Str.ofString "top") (.int zi zt)) zQ zE ⟨zhp, zgs, zdr, ztk, zos⟩ :=
  wr_top (s := ⟨zhp, zgs, zdr, ztk, zos⟩) zP.F zP.X zP.N zP.T zP.c zP.A fun h' news' => zh h' news' _
theorem ws_width (zP : RP zw zh₀ zL zhp zm znews zS zS0 zn) {zi : Int} {zt : Tok} {zQ : Unit → Shared → Prop} (zh : ∀ h' news' zk, Fr zh₀ zL h' zm → News zh₀ zL h' news' → TreeIn zw news' { zS with W := upd zS.W zn { zS.W zn with width := zi } } → zQ () ⟨h', zgs, zdr, zk, zos⟩) :
    wpAny (model PySem.Challenge.rw_np0059_01.row.prog zw) zA (setAttr (.ref (zS0.A zn).x) (Str.ofString "width") (.int zi zt)) zQ zE ⟨zhp, zgs, zdr, ztk, zos⟩ :=
  wr_width (s := ⟨zhp, zgs, zdr, ztk, zos⟩) zP.F zP.X zP.N zP.T zP.c zP.A fun h' news' => zh h' news' _
theorem ws_height (zP : RP zw zh₀ zL zhp zm znews zS zS0 zn) {zi : Int} {zt : Tok} {zQ : Unit → Shared → Prop} (zh : ∀ h' news' zk, Fr zh₀ zL h' zm → News zh₀ zL h' news' → TreeIn zw news' { zS with W := upd zS.W zn { zS.W zn with height := zi } } → zQ () ⟨h', zgs, zdr, zk, zos⟩) :
    wpAny (model PySem.Challenge.rw_np0059_01.row.prog zw) zA (setAttr (.ref (zS0.A zn).x) (Str.ofString "height") (.int zi zt)) zQ zE ⟨zhp, zgs, zdr, ztk, zos⟩ :=
  wr_height (s := ⟨zhp, zgs, zdr, ztk, zos⟩) zP.F zP.X zP.N zP.T zP.c zP.A fun h' news' => zh h' news' _
theorem ws_buffer (zP : RP zw zh₀ zL zhp zm znews zS zS0 zn) {zi : Int} {zt : Tok} {zQ : Unit → Shared → Prop} (zh : ∀ h' news' zk, Fr zh₀ zL h' zm → News zh₀ zL h' news' → TreeIn zw news' zS → zQ () ⟨h', zgs, zdr, zk, zos⟩) :
    wpAny (model PySem.Challenge.rw_np0059_01.row.prog zw) zA (setAttr (.ref (zS0.A zn).x) (Str.ofString "buffer") (.int zi zt)) zQ zE ⟨zhp, zgs, zdr, ztk, zos⟩ :=
  wr_buffer (s := ⟨zhp, zgs, zdr, ztk, zos⟩) zP.F zP.X zP.N zP.T zP.c zP.A fun h' news' => zh h' news' _
theorem ws_start (zP : RP zw zh₀ zL zhp zm znews zS zS0 zn) {zi : Int} {zt : Tok} {zQ : Unit → Shared → Prop} (zh : ∀ h' news' zk, Fr zh₀ zL h' zm → News zh₀ zL h' news' → TreeIn zw news' zS → zQ () ⟨h', zgs, zdr, zk, zos⟩) :
    wpAny (model PySem.Challenge.rw_np0059_01.row.prog zw) zA (setAttr (.ref (zS0.A zn).x) (Str.ofString "start") (.int zi zt)) zQ zE ⟨zhp, zgs, zdr, ztk, zos⟩ :=
  wr_start (s := ⟨zhp, zgs, zdr, ztk, zos⟩) zP.F zP.X zP.N zP.T zP.c zP.A fun h' news' => zh h' news' _
theorem ws_point (zP : RP zw zh₀ zL zhp zm znews zS zS0 zn) {zi : Int} {zt : Tok} {zQ : Unit → Shared → Prop} (zh : ∀ h' news' zk, Fr zh₀ zL h' zm → News zh₀ zL h' news' → TreeIn zw news' zS → zQ () ⟨h', zgs, zdr, zk, zos⟩) :
    wpAny (model PySem.Challenge.rw_np0059_01.row.prog zw) zA (setAttr (.ref (zS0.A zn).x) (Str.ofString "point") (.int zi zt)) zQ zE ⟨zhp, zgs, zdr, ztk, zos⟩ :=
  wr_point (s := ⟨zhp, zgs, zdr, ztk, zos⟩) zP.F zP.X zP.N zP.T zP.c zP.A fun h' news' => zh h' news' _
theorem ws_hscroll (zP : RP zw zh₀ zL zhp zm znews zS zS0 zn) {zi : Int} {zt : Tok} {zQ : Unit → Shared → Prop} (zh : ∀ h' news' zk, Fr zh₀ zL h' zm → News zh₀ zL h' news' → TreeIn zw news' zS → zQ () ⟨h', zgs, zdr, zk, zos⟩) :
    wpAny (model PySem.Challenge.rw_np0059_01.row.prog zw) zA (setAttr (.ref (zS0.A zn).x) (Str.ofString "hscroll") (.int zi zt)) zQ zE ⟨zhp, zgs, zdr, ztk, zos⟩ :=
  wr_hscroll (s := ⟨zhp, zgs, zdr, ztk, zos⟩) zP.F zP.X zP.N zP.T zP.c zP.A fun h' news' => zh h' news' _
theorem ws_use_time (zP : RP zw zh₀ zL zhp zm znews zS zS0 zn) {zi : Int} {zt : Tok} {zQ : Unit → Shared → Prop} (zh : ∀ h' news' zk, Fr zh₀ zL h' zm → News zh₀ zL h' news' → TreeIn zw news' zS → zQ () ⟨h', zgs, zdr, zk, zos⟩) :
    wpAny (model PySem.Challenge.rw_np0059_01.row.prog zw) zA (setAttr (.ref (zS0.A zn).x) (Str.ofString "use_time") (.int zi zt)) zQ zE ⟨zhp, zgs, zdr, ztk, zos⟩ :=
  wr_use_time (s := ⟨zhp, zgs, zdr, ztk, zos⟩) zP.F zP.X zP.N zP.T zP.c zP.A fun h' news' => zh h' news' _
theorem ws_t_last (zP : RX zw zh₀ zL zhp zm znews zS zS0) {zi : Int} {zt : Tok} {zQ : Unit → Shared → Prop} (zh : ∀ h' news' zk, Fr zh₀ zL h' zm → News zh₀ zL h' news' → TreeIn zw news' { zS with last := zi } → zQ () ⟨h', zgs, zdr, zk, zos⟩) :
    wpAny (model PySem.Challenge.rw_np0059_01.row.prog zw) zA (setAttr (.ref zS0.x) (Str.ofString "last") (.int zi zt)) zQ zE ⟨zhp, zgs, zdr, ztk, zos⟩ :=
  wr_t_last (s := ⟨zhp, zgs, zdr, ztk, zos⟩) zP.F zP.X zP.N zP.T zP.x fun h' news' => zh h' news' _
theorem ws_t_clock (zP : RX zw zh₀ zL zhp zm znews zS zS0) {zi : Int} {zt : Tok} {zQ : Unit → Shared → Prop} (zh : ∀ h' news' zk, Fr zh₀ zL h' zm → News zh₀ zL h' news' → TreeIn zw news' zS → zQ () ⟨h', zgs, zdr, zk, zos⟩) :
    wpAny (model PySem.Challenge.rw_np0059_01.row.prog zw) zA (setAttr (.ref zS0.x) (Str.ofString "clock") (.int zi zt)) zQ zE ⟨zhp, zgs, zdr, ztk, zos⟩ :=
  wr_t_clock (s := ⟨zhp, zgs, zdr, ztk, zos⟩) zP.F zP.X zP.N zP.T zP.x fun h' news' => zh h' news' _
theorem ws_t_root (zP : RX zw zh₀ zL zhp zm znews zS zS0) {zi : Int} {zt : Tok} {zQ : Unit → Shared → Prop} (zh : ∀ h' news' zk, Fr zh₀ zL h' zm → News zh₀ zL h' news' → TreeIn zw news' { zS with root := zi } → zQ () ⟨h', zgs, zdr, zk, zos⟩) :
    wpAny (model PySem.Challenge.rw_np0059_01.row.prog zw) zA (setAttr (.ref zS0.x) (Str.ofString "root") (.int zi zt)) zQ zE ⟨zhp, zgs, zdr, ztk, zos⟩ :=
  wr_t_root (s := ⟨zhp, zgs, zdr, ztk, zos⟩) zP.F zP.X zP.N zP.T zP.x fun h' news' => zh h' news' _
theorem ws_t_selected (zP : RX zw zh₀ zL zhp zm znews zS zS0) {zi : Int} {zt : Tok} {zQ : Unit → Shared → Prop} (zh : ∀ h' news' zk, Fr zh₀ zL h' zm → News zh₀ zL h' news' → TreeIn zw news' { zS with selected := zi } → zQ () ⟨h', zgs, zdr, zk, zos⟩) :
    wpAny (model PySem.Challenge.rw_np0059_01.row.prog zw) zA (setAttr (.ref zS0.x) (Str.ofString "selected") (.int zi zt)) zQ zE ⟨zhp, zgs, zdr, ztk, zos⟩ :=
  wr_t_selected (s := ⟨zhp, zgs, zdr, ztk, zos⟩) zP.F zP.X zP.N zP.T zP.x fun h' news' => zh h' news' _
end
section
variable {M : Model} {prog : Program} {w : World} {A A₀ : Around} {E : Value → Shared → Prop} {h₀ hp base : Heap} {L : Addr} {m : Str → Option Value} {news : Led} {gs : Array GenState} {dr : Drawn} {tk : Nat} {os : OsState} {env : Env}
theorem const_int_s {i : Int} {k' : Nat} {pos : Pos} {Q : Value → Shared → Prop} (h : ∀ k, Q (.int i tk) ⟨hp, gs, dr, k, os⟩) : wpAny M A (eval (.Constant (.int i) k' pos) env) Q E ⟨hp, gs, dr, tk, os⟩ := wpAny_Constant_int (h _)
theorem const_str_s {i : Str} {k' : Nat} {pos : Pos} {Q : Value → Shared → Prop} (h : ∀ k, Q (.str i tk) ⟨hp, gs, dr, k, os⟩) : wpAny M A (eval (.Constant (.str i) k' pos) env) Q E ⟨hp, gs, dr, tk, os⟩ := wpAny_Constant_str (h _)
theorem add_int_s {a b : Int} {t u : Tok} {Q : Value → Shared → Prop} (h : ∀ k, Q (.int (a + b) tk) ⟨hp, gs, dr, k, os⟩) : wpAny (model prog w) A (binaryOp .Add (.int a t) (.int b u)) Q E ⟨hp, gs, dr, tk, os⟩ := add_int (h _)
theorem sub_int_s {a b : Int} {t u : Tok} {Q : Value → Shared → Prop} (h : ∀ k, Q (.int (a - b) tk) ⟨hp, gs, dr, k, os⟩) : wpAny (model prog w) A (binaryOp .Sub (.int a t) (.int b u)) Q E ⟨hp, gs, dr, tk, os⟩ := sub_int (h _)
theorem store_s {a : Addr} {cn : Str} {cs : Scope} {ccd : Value} {cl : List (Str × Addr)} {x : Str} {v : Value} {Q : Unit → Shared → Prop} (F : Fr h₀ L hp m) (N : News h₀ L hp news)
    (h : ∀ h' k, let m₁ := fun y => if y = x then some v else m y; Fr h₀ L h' m₁ → News h₀ L h' news → Q () ⟨h', gs, dr, k, os⟩)
    (hk : cs.kind = .function) (hx : (envX cn cs L a ccd cl).kindOf x = some .local) : wpAny M A (storeName (envX cn cs L a ccd cl) x v) Q E ⟨hp, gs, dr, tk, os⟩ :=
  storeX_L (s := ⟨hp, gs, dr, tk, os⟩) F N (fun h' F' N' => h h' _ F' N') hk hx
theorem leave_s {g : Heap} {L' : Addr} {m' : Str → Option Value} {news' : Led} {R : Result → Shared → Prop} {v : Value} (F' : Fr g L' hp m') (N' : News g L' hp news')
    (k : Fr h₀ L hp m → News h₀ L hp news' → R (.ok (.ret v)) ⟨hp, gs, dr, tk, os⟩) : LeaveK h₀ L m g R v ⟨hp, gs, dr, tk, os⟩ := leaveK_ F' N' k
theorem list_s {vs : List Value} {Q : Value → Shared → Prop} (F : Fr h₀ L hp m) (N : News h₀ L hp news)
    (h : ∀ l h', Fr h₀ L h' m → News h₀ L h' ((l, listOf vs.toArray 0) :: news) → (∀ p ∈ news, p.1 < l) → Q (.ref l) ⟨h', gs, dr, tk, os⟩) (hsz : vs.length ≤ sizeLine) : wpAny M A (newList vs) Q E ⟨hp, gs, dr, tk, os⟩ :=
  newList_K (s := ⟨hp, gs, dr, tk, os⟩) F N h hsz
theorem tuple_s {vs : List Value} {Q : Value → Shared → Prop} (F : Fr h₀ L hp m) (N : News h₀ L hp news)
    (h : ∀ l h', Fr h₀ L h' m → News h₀ L h' ((l, ({ cls := .type "tuple", data := .seq vs.toArray } : Obj)) :: news) → (∀ p ∈ news, p.1 < l) → Q (.ref l) ⟨h', gs, dr, tk, os⟩) (hsz : vs.length ≤ sizeLine) : wpAny M A (newTuple vs) Q E ⟨hp, gs, dr, tk, os⟩ :=
  kup_newTuple (s := ⟨hp, gs, dr, tk, os⟩) F N h hsz
/-- the names a call binds, with what they are bound to -/
def lkN (ns : List Str) (vs : List Value) (y : Str) : Option Value := (ns.zip vs).reverse.lookup y
def pnames (p : Arguments) : List Str := p.args.map Arg.arg
theorem room0 {a c d l : Nat} (h : a + c < l) (e : Nat.ble d c = true) : a + d < l := Nat.lt_of_le_of_lt (Nat.add_le_add_left (Nat.le_of_ble_eq_true e) a) h
theorem room1 {a c d l : Nat} (h : a + c < l) (e : Nat.ble (1 + d) c = true) : a + 1 + d < l := (Nat.add_assoc a 1 d).symm ▸ room0 h e
theorem room2 {a c d l : Nat} (h : a + c < l) (e : Nat.ble (1 + 1 + d) c = true) : a + 1 + 1 + d < l := (show a + 1 + 1 + d = a + (1 + 1 + d) by lia) ▸ room0 h e
theorem enter_s {mean : ExcName → Option Value} {mg mb : Str → Option Value} {outer : List Env} {R : Result → Shared → Prop} {name qual : Str} {params : Arguments} {body : List Stmt} {scope : Scope} {dV kV doc pm cdv ct oc : Value} {an od : Option Addr} {osl : Array (Option Value)} {f : Addr} {vs : List Value} {binds : List (Str × Value)}
    (P : CB w mean mg mb A₀ base outer h₀ L hp m news) (hA : A.frames = some (env :: outer)) (hf : env.frame = some L) (hke : env.scope.kind = .function)
    (ho : (Mine.hd.heap_1 w.params).lookup f = some ⟨oc, od, .func (fnOf name qual params body scope dV kV doc pm an cdv ct), osl⟩) (hcd : codeIn (Mine.hd.heap_1 w.params) cdv qual = true) (hroom : A.depth < recursionLimit)
    (hbind : BindsTo ⟨hp, gs, dr, tk, os⟩ (fnOf name qual params body scope dV kV doc pm an cdv ct) ⟨vs, []⟩ binds) (hloc : ∀ y ∈ binds, scope.names.lookup y.1 = some .local)
    (hm : (fun y => binds.reverse.lookup y) = lkN (pnames params) vs)
    (h : ∀ g L' h₁ k, let A₁ := A.deeper (envOf qual scope L' f cdv); let m₁ := lkN (pnames params) vs; Fr h₀ L g m → Fr g L' h₁ m₁ → News g L' h₁ news → Below A base (env :: outer) g → (Mine.hd.heap_1 w.params).In g → Top Mine.view (looseW Mine.view Mine.loose) mean mg mb g →
      wpAny (model PySem.Challenge.rw_np0059_01.row.prog w) A₁ (execs body (envOf qual scope L' f cdv))
        (fun fl s' => LeaveK h₀ L m g R (match fl with | .ret v => v | _ => .none) s')
        (fun e s' => wpAny (model PySem.Challenge.rw_np0059_01.row.prog w) (A.deeper (envOf qual scope L' f cdv)) (leaving (envOf qual scope L' f cdv) e) (fun _ s'' => R (.error e) s'') (fun e' s'' => R (.error e') s'') s')
        ⟨h₁, gs, dr, k, os⟩)
    (hco : scope.isCoroutine = false) (hgen : scope.isGenerator = false) (hk : scope.kind = .function)
    (hcell : ∀ x ∈ scope.names, x.2 ≠ .cell) : codeAny (model PySem.Challenge.rw_np0059_01.row.prog w) A (.call (.ref f) ⟨vs, []⟩) R ⟨hp, gs, dr, tk, os⟩ :=
  PySem.W.code_def (s := ⟨hp, gs, dr, tk, os⟩) P.B P.F P.X P.N P.T hA hf hke ho hcd hroom hbind hloc (fun g L' h₁ FG F' N' B' X' T' => h g L' h₁ _ FG (hm ▸ F') N' B' X' T') hco hgen hk hcell
theorem enterC_s {mean : ExcName → Option Value} {mg mb : Str → Option Value} {outer : List Env} {R : Result → Shared → Prop} {name qual : Str} {params : Arguments} {body : List Stmt} {scope : Scope} {dV kV doc pm cdv ct oc : Value} {an od : Option Addr} {osl : Array (Option Value)} {f : Addr} {args : Args} {binds : List (Str × Value)}
    (P : CB w mean mg mb A₀ base outer h₀ L hp m news) (hA : A.frames = some (env :: outer)) (hf : env.frame = some L) (hke : env.scope.kind = .function)
    (ho : (Mine.hd.heap_1 w.params).lookup f = some ⟨oc, od, .func (fnOf name qual params body scope dV kV doc pm an cdv ct), osl⟩) (hcd : codeIn (Mine.hd.heap_1 w.params) cdv qual = true) (hroom : A.depth < recursionLimit)
    (hbind : BindsTo ⟨hp, gs, dr, tk, os⟩ (fnOf name qual params body scope dV kV doc pm an cdv ct) args binds) (hkind : (binds.all fun y => scope.names.lookup y.1 == some .local || scope.names.lookup y.1 == some .cell) = true)
    (hnd : ((cellsFrom 0 scope.names []).map (·.1)).Nodup)
    (h : ∀ g L' h₁ k cells, let A₁ := A.deeper (envOfC qual scope L' f cdv); let m₁ := bindL (envOfC qual scope L' f cdv).kindOf binds fun _ => none; Fr h₀ L g m → Fr g L' h₁ m₁ → News g L' h₁ (cells ++ news) →
      CellsAre (bindC (envOfC qual scope L' f cdv).kindOf binds fun _ => none) (cellsFrom (L' + 1) scope.names []) cells → Below A base (env :: outer) g → (Mine.hd.heap_1 w.params).In g → Top Mine.view (looseW Mine.view Mine.loose) mean mg mb g → (∀ p ∈ news, p.1 < L') →
      wpAny (model PySem.Challenge.rw_np0059_01.row.prog w) A₁ (execs body (envOfC qual scope L' f cdv))
        (fun fl s' => LeaveK h₀ L m g R (match fl with | .ret v => v | _ => .none) s')
        (fun e s' => wpAny (model PySem.Challenge.rw_np0059_01.row.prog w) (A.deeper (envOfC qual scope L' f cdv)) (leaving (envOfC qual scope L' f cdv) e) (fun _ s'' => R (.error e) s'') (fun e' s'' => R (.error e') s'') s')
        ⟨h₁, gs, dr, k, os⟩)
    (hco : scope.isCoroutine = false) (hgen : scope.isGenerator = false) (hk : scope.kind = .function) : codeAny (model PySem.Challenge.rw_np0059_01.row.prog w) A (.call (.ref f) args) R ⟨hp, gs, dr, tk, os⟩ :=
  PySem.W.code_defC (s := ⟨hp, gs, dr, tk, os⟩) P.B P.F P.X P.N P.T hA hf hke ho hcd hroom hbind hkind hnd (fun g L' h₁ k cells => h g L' h₁ k cells) hco hgen hk
theorem upd_of {d : Addr} {o o' : Obj} : ∀ {l : Led} {g : Obj → Led}, UpdF d o l g → Upd d o o' l (g o')
  | _, _, .head h => .head h
  | _, _, .tail h r => .tail h (upd_of r)
theorem set_s {x dx C : Addr} {ox : Obj} {es es' : List DictEntry} {n n' : Nat} {name : Str} {v : Value} {g : Obj → Led} {Q : Unit → Shared → Prop} (F : Fr h₀ L hp m) (X : (Mine.hd.heap_1 w.params).In h₀) (N : News h₀ L hp news) (I : InstAt hp x ox C (some (dictOf es n))) (hd : ox.dict = some dx)
    (hs : findIn (Mine.hd.heap_1 w.params) (.ref C) "__setattr__" = some (some (.builtin "object.__setattr__"))) (hpl : plainOver (Mine.hd.heap_1 w.params) C = true) (ht : takerIn (Mine.hd.heap_1 w.params) C name = some none) (hh : hasDictIn (Mine.hd.heap_1 w.params) C = true) (hl : (getL name es).isSome = true)
    (e : (putL name (PyData.keyHash w.params name) (.str name (tk + 1)) v es, putN name es n) = (es', n')) (U : UpdF dx (dictOf es n) news g) (hz : es'.length ≤ 1000)
    (h : ∀ h' k, let D := dictOf es' n'; Fr h₀ L h' m → News h₀ L h' (g D) → Q () ⟨h', gs, dr, k, os⟩) :
    wpAny (model PySem.Challenge.rw_np0059_01.row.prog w) A (setAttr (.ref x) name v) Q E ⟨hp, gs, dr, tk, os⟩ :=
  set_dict (s := ⟨hp, gs, dr, tk, os⟩) F X N I hd hs hpl ht hh hl e (upd_of U) hz fun h' F' N' => h h' _ F' N'
theorem CallOk.go {mean : ExcName → Option Value} {mg mb : Str → Option Value} {f : Value} {args : List Value} {dn un₀ : Nat} {Pre : Led → Prop} {Post : Led → Led → Value → Prop} {dp un : Nat} {gd : Option (List Code)} {cn : Str} {cs : Scope} {a : Addr} {ccd : Value} {cl : List (Str × Addr)} {outer : List Env}
    {Q E : Value → Shared → Prop} (C : CallOk w mean mg mb f args dn un₀ Pre Post) (hA : A = ktrTop dp un gd cn cs L a ccd cl outer) (P : CB w mean mg mb A₀ base outer h₀ L hp m news) (hk : cs.kind = .function) (hc : Pre news) (hd : dp + dn < recursionLimit) (hu : un + un₀ < cLine)
    (ret : ∀ q, (∀ v s', Q v s' → CPost q v s') → ∀ r news' h' tk', Fr h₀ L h' m → News h₀ L h' news' → Post news news' r → CPost q r ⟨h', gs, dr, tk', os⟩) :
    wpAny (model PySem.Challenge.rw_np0059_01.row.prog w) A (call f args) Q E ⟨hp, gs, dr, tk, os⟩ := by
  subst hA
  exact CallOk.useQ C P.B P.F P.X P.N P.T hk hc hd hu ret
end
end
section
open PySem PySem.W PyProof.Rows PySem.Calls PySem.Spec PyProof.V
/-- an exception under way, its object told by P -/
def TrP (P : Obj → Prop) (base h : Heap) (e : Addr) (fl : Value) : Prop :=
  ∃ oe vs T oT ts, h.get? e = some oe ∧ P oe ∧ oe.data = .fields vs ∧ vs[1]? = some (.ref T) ∧ base.get? T = none ∧ T ≠ e ∧ h.get? T = some oT ∧ oT.data = .fields ts ∧ ts[3]? = some fl
def Still (P : Obj → Prop) : Prop := ∀ (f : Array Value → Array Value) (o : Obj), P o → P (Obj.mapFields f o)
def FlyP (P : Obj → Prop) (base : Heap) (l : List Env) (e : Addr) (fl : Value) (h : Heap) : Prop := base.StaysIn h ∧ base.get? e = none ∧ h.FunFrames base l ∧ TrP P base h e fl

section
variable {M : Model} {A : Around} {E : Value → Shared → Prop} {s : Shared} {P : Obj → Prop} {base : Heap} {env : Env} {outer l : List Env} {L e : Addr}
/-- a new entry of the traceback -/
theorem entryP {oe : Obj} {vs : Array Value} {head : Value} {hadNext : Bool} {Q : Unit → Shared → Prop} (hP : Still P) (hpo : P oe)
    (hfr : A.frames = some (env :: outer)) (hl : s.heap.FunFrames base (env :: outer)) (hf : env.frame = some L)
    (he : s.heap.get? e = some oe) (hkb : base.StaysIn s.heap) (hen : base.get? e = none) (hd : oe.data = .fields vs) (hsz : 1 < vs.size)
    (h : ∀ h', FlyP P base (env :: outer) e (rawInt L) h' → s.heap.UpToSlots h' → Q () { s with heap := h' }) :
    wpAny M A (do let a ← frameOf env; let pl ← entryPlaceOf L hadNext; let b ← EntryCells.newEntry head a .none (rawInt L) .none pl; setField (.ref e) 1 b) Q E s := by
  have hne : e ∉ (env :: outer).filterMap (·.frame) := fun hm => by
    obtain ⟨_, o, ho, hn⟩ := hl.mem hm
    rw [he] at ho
    cases ho
    exact hn vs hd
  have free : ∀ b o, base.get? b = some o → b ∉ (env :: outer).filterMap (·.frame) := fun b o hb hm => by rw [(hl.mem hm).1] at hb; cases hb
  refine wpAny_bind (wpAny_frameOf_fun hfr hl hf fun h₁ hs => ?_)
  refine wpAny_bind (wpAny_entryPlaceOf fun pl hpl => ?_)
  unfold EntryCells.newEntry newFields
  refine wpAny_bind (wpAny_newObj_type ?_ (hpl.sizeOk5 _ _ _ _ _))
  generalize hts : ([head, Value.ref L, Value.none, rawInt L, Value.none] ++ (if pl.isEmpty = true then List.replicate 6 Value.none else pl)).toArray = ts
  have ht3 : ts[3]? = some (rawInt L) := by
    rw [← hts]
    rcases hpl with rfl | ⟨_, _, _, _, _, _, _, rfl⟩ <;> simp
  have he1 : h₁.get? e = some oe := (hs.2.1 e hne).trans he
  have ne : h₁.objs.size ≠ e := Nat.ne_of_gt (Heap.lt_size he1)
  refine wpAny_setField (Heap.get?_push_of_some _ he1) hd hsz (h _ ?_ ?_)
  · have d3 := Obj.data_mapFields hd (·.setIfInBounds 1 (Value.ref h₁.objs.size))
    refine ⟨fun b o hb => ?_, hen, hl.of_keeps fun b o hb hn => ?_, _, _, h₁.objs.size, _, ts, Heap.get?_update_self _ (Heap.get?_push_of_some _ he1) (Obj.isFreed_of_fields d3), hP _ _ hpo, d3, ?_, ?_, ne, (Heap.get?_update_other _ _ (Ne.symm ne)).trans (Heap.get?_push_size h₁ rfl), rfl, ht3⟩
    · have hbe : e ≠ b := fun q => by rw [← q, hen] at hb; cases hb
      rw [Heap.get?_update_other _ _ hbe]
      exact Heap.get?_push_of_some _ ((hs.2.1 b (free b o hb)).trans (hkb b o hb))
    · have hbe : e ≠ b := fun q => by subst q; rw [he] at hb; cases hb; exact hn vs hd
      obtain ⟨sl, hs'⟩ := hs.2.2 b o hb
      exact ⟨_, (Heap.get?_update_other _ _ hbe).trans (Heap.get?_push_of_some _ hs'), rfl⟩
    · simp [hsz]
    · exact Heap.StaysIn.fresh fun b o hb => (hs.2.1 b (free b o hb)).trans (hkb b o hb)
  · intro b o hb hn
    have hbe : e ≠ b := fun q => by subst q; rw [he] at hb; cases hb; exact hn vs hd
    obtain ⟨sl, hs'⟩ := hs.2.2 b o hb
    exact ⟨sl, (Heap.get?_update_other _ _ hbe).trans (Heap.get?_push_of_some _ hs')⟩

/-- the first frame -/
theorem note_firstP {oe : Obj} {vs : Array Value} {Q : Unit → Shared → Prop} (hP : Still P) (hpo : P oe)
    (hfr : A.frames = some (env :: outer)) (hl : s.heap.FunFrames base (env :: outer)) (hf : env.frame = some L)
    (he : s.heap.get? e = some oe) (hkb : base.StaysIn s.heap) (hen : base.get? e = none) (hd : oe.data = .fields vs) (h1 : vs[1]? = some .none)
    (h : ∀ h', FlyP P base (env :: outer) e (rawInt L) h' → s.heap.UpToSlots h' → Q () { s with heap := h' }) : wpAny M A (noteFrame (.ref e) env) Q E s := by
  unfold noteFrame
  simp only [hf]
  refine wpAny_bind (wpAny_field he hd h1 ?_)
  rw [if_neg (by decide)]
  exact entryP hP hpo hfr hl hf he hkb hen hd (Array.getElem?_eq_some_iff.mp h1).1 h

/-- a frame more -/
theorem note_nextP {Q : Unit → Shared → Prop} (hP : Still P) (hfr : A.frames = some (env :: outer)) (hf : env.frame = some L) (hy : FlyP P base (env :: outer) e .none s.heap)
    (h : ∀ h', FlyP P base (env :: outer) e (rawInt L) h' → s.heap.UpToSlots h' → Q () { s with heap := h' }) : wpAny M A (noteFrame (.ref e) env) Q E s := by
  obtain ⟨hkb, hen, hl, oe, vs, T, oT, ts, he, hpo, hd, h1, hT0, hTe, hT, hdT, h3⟩ := hy
  unfold noteFrame
  simp only [hf]
  refine wpAny_bind (wpAny_field he hd h1 ?_)
  rw [if_pos (show (Value.ref T != Value.none) = true from by simp)]
  refine wpAny_bind (wpAny_field hT hdT h3 ?_)
  rw [if_neg (show ¬ ((Value.none == rawInt L) = true) from by simp [rawInt])]
  refine wpAny_bind (wpAny_setField hT hdT (Array.getElem?_eq_some_iff.mp h3).1 ?_)
  have oth : ∀ b o, s.heap.get? b = some o → b ≠ T → (s.heap.update T (Obj.mapFields (·.setIfInBounds 3 Value.none))).get? b = some o := fun b o hb hn => (Heap.get?_update_other _ _ (Ne.symm hn)).trans hb
  have hrec : ∀ b o, s.heap.get? b = some o → (∀ vs, o.data ≠ .fields vs) → b ≠ T := fun b o hb hn q => by
    subst q; rw [hT] at hb; cases hb; exact hn ts hdT
  refine entryP hP hpo hfr (hl.of_keeps fun b o hb hn => ⟨o, oth b o hb (hrec b o hb hn), rfl⟩) hf (oth e _ he (Ne.symm hTe)) (fun b o hb => oth b o (hkb b o hb) fun q => by rw [q, hT0] at hb; cases hb) hen hd (Array.getElem?_eq_some_iff.mp h1).1 fun h' y1 y2 => h h' y1 ?_
  exact fun b o hb hn => y2 b o (oth b o hb (hrec b o hb hn)) hn

/-- the flight ends, or is told anew -/
theorem flight_noneP {fl : Value} {Q : Unit → Shared → Prop} (hy : FlyP P base l e fl s.heap) (h : ∀ h', FlyP P base l e .none h' → s.heap.UpToSlots h' → Q () { s with heap := h' }) :
    wpAny M A (setFlight (.ref e) none) Q E s := by
  obtain ⟨hkb, hen, hl, oe, vs, T, oT, ts, he, hpo, hd, h1, hT0, hTe, hT, hdT, h3⟩ := hy
  have oth : ∀ b o, s.heap.get? b = some o → b ≠ T → (s.heap.update T (Obj.mapFields (·.setIfInBounds 3 ((none : Option Addr).elim Value.none fun f => rawInt f)))).get? b = some o := fun b o hb hn => (Heap.get?_update_other _ _ (Ne.symm hn)).trans hb
  have hrec : ∀ b o, s.heap.get? b = some o → (∀ vs, o.data ≠ .fields vs) → b ≠ T := fun b o hb hn q => by
    subst q; rw [hT] at hb; cases hb; exact hn ts hdT
  have hz := (Array.getElem?_eq_some_iff.mp h3).1
  unfold setFlight
  refine wpAny_bind (wpAny_field he hd h1 ?_)
  rw [if_pos (show (Value.ref T != Value.none) = true from by simp)]
  refine wpAny_setField hT hdT hz (h _ ⟨fun b o hb => oth b o (hkb b o hb) (fun q => by rw [q, hT0] at hb; cases hb), hen, hl.of_keeps fun b o hb hn => ⟨o, oth b o hb (hrec b o hb hn), rfl⟩, ?_⟩ fun b o hb hn => ⟨o.slots, oth b o hb (hrec b o hb hn)⟩)
  exact ⟨oe, vs, T, _, _, oth e _ he (Ne.symm hTe), hpo, hd, h1, hT0, hTe, Heap.get?_update_self _ hT (Obj.isFreed_of_fields (Obj.data_mapFields hdT _)), Obj.data_mapFields hdT _, by simp [hz]⟩
theorem FlyP.tail {fl : Value} {h : Heap} (y : FlyP P base (env :: outer) e fl h) : FlyP P base outer e fl h := ⟨y.1, y.2.1, y.2.2.1.2.2, y.2.2.2⟩
theorem FlyP.onBase {b0 B h : Heap} {fl : Value} (k : b0.StaysIn B) (y : FlyP P B l e fl h) : FlyP P b0 l e fl h := by
  obtain ⟨f1, f2, f3, oe, vs, T, oT, ts, a1, a2, a3, a4, a5, a6⟩ := y
  exact ⟨fun b o q => f1 b o (k b o q), fresh_of_stays k f2, funFrames_base k f3, oe, vs, T, oT, ts, a1, a2, a3, a4, fresh_of_stays k a5, a6⟩
end

/-- an exception that has left frames: the ledger stands -/
def RaisedP (P : Obj → Prop) (base : Heap) (l : List Env) (e : Addr) (news : Led) (h : Heap) : Prop :=
  ∃ B, base.StaysIn B ∧ (∀ q ∈ news, B.get? q.1 = some q.2 ∧ base.get? q.1 = none) ∧ FlyP P B l e .none h

section
variable {M : Model} {A : Around} {E : Value → Shared → Prop} {s' : Shared} {base g g₂ : Heap} {outer : List Env} {L a e : Addr} {m : Str → Option Value} {name : Str} {scope : Scope} {cd : Value} {Q : Unit → Shared → Prop} {news : Led} {P : Obj → Prop}
theorem leave_firstP {oe : Obj} {vs : Array Value} (hP : Still P) (hpo : P oe) (K : Below A base outer g) (F : Fr g L s'.heap m) (N : News g L s'.heap ((e, oe) :: news)) (hne : ∀ q ∈ news, q.1 ≠ e) (hd : oe.data = .fields vs) (h1 : vs[1]? = some .none)
    (hQ : ∀ h', RaisedP P base outer e news h' → g.UpToSlots h' → Q () { s' with heap := h' }) (hk : scope.kind = .function := by rfl) :
    wpAny M (A.deeper (envOf name scope L a cd)) (leaving (envOf name scope L a cd) (.ref e)) Q E s' := by
  have K' := K.push (name := name) (a := a) (cd := cd) F hk
  have he := N _ (.head _)
  have hin : ∀ env ∈ (envOf name scope L a cd :: outer), ∀ b, env.frame = some b → b ∈ e :: (envOf name scope L a cd :: outer).filterMap (·.frame) := fun env hm b hb => .tail _ (List.mem_filterMap.mpr ⟨env, hm, hb⟩)
  have hbe : base.get? e = none := fresh_of_stays K.stays he.2.2
  have st : base.StaysIn (hideAll s'.heap (e :: (envOf name scope L a cd :: outer).filterMap (·.frame))) := fun b o q => hideAll_get _ (K'.stays b o q) fun hm => by
    rcases List.mem_cons.mp hm with rfl | hm
    · rw [hbe] at q; cases q
    · rw [(K'.frames.mem hm).1] at q; cases q
  have hl : ∀ q ∈ news, (hideAll s'.heap (e :: (envOf name scope L a cd :: outer).filterMap (·.frame))).get? q.1 = some q.2 ∧ base.get? q.1 = none := fun q hq => by
    have nq := N q (.tail _ hq)
    refine ⟨hideAll_get _ nq.1 fun hm => ?_, fresh_of_stays K.stays nq.2.2⟩
    rcases List.mem_cons.mp hm with z | hm
    · exact hne q hq z
    · obtain ⟨env, hm, hf⟩ := List.mem_filterMap.mp hm
      rcases List.mem_cons.mp hm with rfl | hm
      · exact nq.2.1 (Option.some.inj hf).symm
      · obtain ⟨o, ho, _⟩ := (K.frames.mem (List.mem_filterMap.mpr ⟨env, hm, hf⟩)).2
        rw [nq.2.2] at ho; cases ho
  unfold leaving
  refine wpAny_bind (note_firstP hP hpo K'.stack (funFrames_hide K'.frames hin) rfl he.1 (fun b o q => of_hideAll _ q) (hideAll_none _ (.head _)) hd h1 fun h₁ y1 u1 => ?_)
  refine flight_noneP y1 fun h₂ y2 u2 => hQ h₂ ⟨_, st, hl, y2.tail⟩ ?_
  exact (Heap.UpToSlots.of_keeps F.keep).trans (u1.trans u2)
theorem leave_onP (hP : Still P) (K : Below A base outer g) (F : Fr g L g₂ m) (R : RaisedP P base (envOf name scope L a cd :: outer) e news s'.heap) (hsm : g₂.UpToSlots s'.heap)
    (hQ : ∀ h', RaisedP P base outer e news h' → g.UpToSlots h' → Q () { s' with heap := h' }) :
    wpAny M (A.deeper (envOf name scope L a cd)) (leaving (envOf name scope L a cd) (.ref e)) Q E s' := by
  obtain ⟨B, hB, hl, y⟩ := R
  unfold leaving
  refine wpAny_bind (note_nextP hP (Around.frames_deeper K.stack) rfl y fun h₁ y1 u1 => ?_)
  refine flight_noneP y1 fun h₂ y2 u2 => hQ h₂ ⟨B, hB, hl, y2.tail⟩ ?_
  exact (Heap.UpToSlots.of_keeps F.keep).trans (hsm.trans (u1.trans u2))
end
end
section
open PySem PySem.W PyProof.Rows PySem.Calls PySem.Spec PyProof.V
abbrev sigObj : Obj := excClassObj (Str.ofString "LispSignal") (Str.ofString "LispSignal") 38 37 [.type "Exception"] [.type "Exception", .type "BaseException", .type "object"] true [] [] false none none (some (.ref 22)) none (some (.str (Str.ofString "LispSignal") 196)) (some (.str (Str.ofString "LispSignal") 204)) (some (.bool true)) "Exception.__new__"
theorem cls38_look (P : Params) : (Mine.hd.heap_1 P).lookup 38 = some sigObj := by kernel_rfl
theorem cls38 {P : Params} {h : Heap} (X : (Mine.hd.heap_1 P).In h) : h.get? 38 = some sigObj := X _ _ (cls38_look P)
def ExcP (ed : Addr) (o : Obj) : Prop := o.cls = .ref 38 ∧ o.dict = some ed
theorem ExcP.still (ed : Addr) : Still (ExcP ed) := by
  rintro f ⟨c, d, dt, s⟩ ⟨h1, h2⟩
  cases dt <;> exact ⟨h1, h2⟩
theorem FlyP.frameL {P : Obj → Prop} {B h : Heap} {env : Env} {outer : List Env} {e L : Addr} {fl : Value} (y : FlyP P B (env :: outer) e fl h) (hf : env.frame = some L) : B.get? L = none ∧ e ≠ L := by
  obtain ⟨_, _, ⟨_, ⟨L', o, hf', hn, ho, hd⟩, _⟩, oe, vs, T, oT, ts, he, _, hv, _⟩ := y
  rw [hf] at hf'
  cases hf'
  exact ⟨hn, fun q => by subst q; rw [ho] at he; cases he; exact hd _ hv⟩
section
variable {w : World} {A₀ : Around} {E : Value → Shared → Prop} {s' : Shared} {h₀ h : Heap} {outer : List Env} {L a e ed : Addr} {m : Str → Option Value} {name : Str} {scope : Scope} {cd : Value}
  {n : Str} {b₀ : Stmt} {suite : List Stmt} {pos np : Pos} {rest : List ExceptHandler} {Q : Flow → Shared → Prop} {news : Led}
  {p : Program} {loose : List Str} {mg mb : Str → Option Value}
/-- an exception of the text's own class, met by its name -/
theorem caught0 (K : Below A₀ h₀ outer h₀) (F : Fr h₀ L h m) (hsm : h.UpToSlots s'.heap) (R : RaisedP (ExcP ed) h₀ (envOf name scope L a cd :: outer) e news s'.heap)
    (X : (Mine.hd.heap_1 w.params).In h₀) (T : TopRead p loose mg mb h₀) (ex : nsIn (Mine.hd.heap_1 w.params) mainGlobals (Str.ofString "LispSignal") = some (some (.ref 38)))
    (k : ∀ h' oe, Fr h₀ L h' m → News h₀ L h' ((e, oe) :: news) → ExcP ed oe → (∃ vs, oe.data = .fields vs) →
      wpAny (model PySem.Challenge.rw_np0059_01.row.prog w) ((A₀.deeper (envOf name scope L a cd)).mark (some (.ref e))) (execs (b₀ :: suite) (envOf name scope L a cd)) Q E { s' with heap := h' })
    (hk : scope.kind = .function := by rfl) (hx : (envOf name scope L a cd).kindOf (Str.ofString "LispSignal") = some .globalImplicit := by rfl)
    (hE : PassesOwnAt (model PySem.Challenge.rw_np0059_01.row.prog w) ((A₀.deeper (envOf name scope L a cd)).mark (some (.ref e))) (A₀.deeper (envOf name scope L a cd)) (envOf name scope L a cd) E := by passes_own) :
    wpAny (model PySem.Challenge.rw_np0059_01.row.prog w) (A₀.deeper (envOf name scope L a cd)) (noteFrame (.ref e) (envOf name scope L a cd))
      (fun _ s₂ => wpAny (model PySem.Challenge.rw_np0059_01.row.prog w) (A₀.deeper (envOf name scope L a cd)) (setFlight (.ref e) none) (fun _ s₃ =>
        wpAny (model PySem.Challenge.rw_np0059_01.row.prog w) (A₀.deeper (envOf name scope L a cd)) (handleBy (.ref e) (envOf name scope L a cd) (.ExceptHandler (some (.Name (Str.ofString "LispSignal") np)) none (b₀ :: suite) pos :: rest)) Q E s₃) E s₂) E s' := by
  obtain ⟨B, hB, hl, y⟩ := R
  obtain ⟨hL, hne⟩ := y.frameL rfl
  refine note_nextP (ExcP.still ed) (Around.frames_deeper K.stack) rfl y fun h₄ y4 u4 => ?_
  refine flight_noneP y4 fun h₅ y5 u5 => ?_
  have F₅ := F.of_stays (y5.onBase hB).1 (hsm.trans (u4.trans u5))
  refine wpAny_handleBy_cons (codeAny_handlers_test (name_K F₅ X T ex ?_ hk hx (by decide))) (by intro q; cases q)
  obtain ⟨oe, _, _, _, _, hoe, hpo, _⟩ := y5.2.2.2
  refine wpAny_excMatches_sub_self (cls38 (X.keeps F₅.keep)) hoe hpo.1 (by decide) (codeAny_handlers_suite ?_)
  refine flight_noneP y5 fun h₆ y6 u6 => ?_
  have y6' := y6.onBase hB
  have F₆ := F.of_stays y6'.1 (hsm.trans (u4.trans (u5.trans u6)))
  obtain ⟨oe6, vs6, _, _, _, hoe6, hpo6, hd6, _⟩ := y6.2.2.2
  refine wpAny_passesOwnAt hE (k h₆ oe6 F₆ (fun q hq => ?_) hpo6 ⟨vs6, hd6⟩)
  rcases List.mem_cons.mp hq with rfl | hq
  · exact ⟨hoe6, hne, y6'.2.1⟩
  · exact ⟨y6.1 _ _ (hl q hq).1, (fun z => by have := (hl q hq).1; rw [z, hL] at this; cases this), (hl q hq).2⟩
theorem caughtB (K : Below A₀ h₀ outer h₀) (F : Fr h₀ L h m) (hsm : h.UpToSlots s'.heap) (R : RaisedP (ExcP ed) h₀ (envOf name scope L a cd :: outer) e news s'.heap)
    (X : (Mine.hd.heap_1 w.params).In h₀) (T : TopRead p loose mg mb h₀) (ex : nsIn (Mine.hd.heap_1 w.params) mainGlobals (Str.ofString "LispSignal") = some (some (.ref 38)))
    (k : ∀ h' oe tk, Fr h₀ L h' (fun y => if y = n then some (.ref e) else m y) → News h₀ L h' ((e, oe) :: news) → ExcP ed oe → (∃ vs, oe.data = .fields vs) →
      wpAny (model PySem.Challenge.rw_np0059_01.row.prog w) ((A₀.deeper (envOf name scope L a cd)).mark (some (.ref e))) (execs (b₀ :: suite) (envOf name scope L a cd))
        (fun f s₄ => wpAny (model PySem.Challenge.rw_np0059_01.row.prog w) (A₀.deeper (envOf name scope L a cd)) (do bindName (envOf name scope L a cd) n .none; unbindBehindTheSuite (envOf name scope L a cd) n pos) (fun _ s₅ => Q f s₅) E s₄)
        (AsSuiteRaised (model PySem.Challenge.rw_np0059_01.row.prog w) ((A₀.deeper (envOf name scope L a cd)).mark (some (.ref e))) (envOf name scope L a cd) n pos (notedBy (model PySem.Challenge.rw_np0059_01.row.prog w) ((A₀.deeper (envOf name scope L a cd)).mark (some (.ref e))) (envOf name scope L a cd) (cameBackBy (model PySem.Challenge.rw_np0059_01.row.prog w) (A₀.deeper (envOf name scope L a cd)) (envOf name scope L a cd) E)))
        { s' with heap := h', toks := tk })
    (hk : scope.kind = .function := by rfl) (hlo : (envOf name scope L a cd).kindOf n = some .local := by rfl) (hx : (envOf name scope L a cd).kindOf (Str.ofString "LispSignal") = some .globalImplicit := by rfl) :
    wpAny (model PySem.Challenge.rw_np0059_01.row.prog w) (A₀.deeper (envOf name scope L a cd)) (noteFrame (.ref e) (envOf name scope L a cd))
      (fun _ s₂ => wpAny (model PySem.Challenge.rw_np0059_01.row.prog w) (A₀.deeper (envOf name scope L a cd)) (setFlight (.ref e) none) (fun _ s₃ =>
        wpAny (model PySem.Challenge.rw_np0059_01.row.prog w) (A₀.deeper (envOf name scope L a cd)) (handleBy (.ref e) (envOf name scope L a cd) (.ExceptHandler (some (.Name (Str.ofString "LispSignal") np)) (some n) (b₀ :: suite) pos :: rest)) Q E s₃) E s₂) E s' := by
  obtain ⟨B, hB, hl, y⟩ := R
  obtain ⟨hL, hne⟩ := y.frameL rfl
  refine note_nextP (ExcP.still ed) (Around.frames_deeper K.stack) rfl y fun h₄ y4 u4 => ?_
  refine flight_noneP y4 fun h₅ y5 u5 => ?_
  have F₅ := F.of_stays (y5.onBase hB).1 (hsm.trans (u4.trans u5))
  refine wpAny_handleBy_cons (codeAny_handlers_test (name_K F₅ X T ex ?_ hk hx (by decide))) (by intro q; cases q)
  obtain ⟨oe, _, _, _, _, hoe, hpo, _⟩ := y5.2.2.2
  refine wpAny_excMatches_sub_self (cls38 (X.keeps F₅.keep)) hoe hpo.1 (by decide) (codeAny_handlers_suite_as ?_)
  refine flight_noneP y5 fun h₆ y6 u6 => ?_
  have y6' := y6.onBase hB
  have F₆ := F.of_stays y6'.1 (hsm.trans (u4.trans (u5.trans u6)))
  obtain ⟨oe6, vs6, _, _, _, hoe6, hpo6, hd6, _⟩ := y6.2.2.2
  have N₆ : News h₀ L h₆ ((e, oe6) :: news) := fun q hq => by
    rcases List.mem_cons.mp hq with rfl | hq
    · exact ⟨hoe6, hne, y6'.2.1⟩
    · exact ⟨y6.1 _ _ (hl q hq).1, (fun z => by have := (hl q hq).1; rw [z, hL] at this; cases this), (hl q hq).2⟩
  refine stN F₆ N₆ (fun h₇ F₇ N₇ => ?_) hk hlo
  exact k h₇ oe6 _ F₇ N₇ hpo6 ⟨vs6, hd6⟩
end
end
section
open PySem PySem.W PyProof.Rows PySem.Calls PySem.Spec PyProof.V Builtin Builtin.ObjectAttr
def NsObj (d : Addr) (o : Obj) (m : Str → Option Value) : Prop := ∀ h : Heap, h.get? d = some o → h.Ns1 d m
theorem nsObj_of {h : Heap} {d : Addr} {m : Str → Option Value} (x : h.Ns1 d m) : ∃ o, h.get? d = some o ∧ NsObj d o m := by
  obtain ⟨o, es, ep, e, r⟩ := x
  exact ⟨o, e, fun h' e' => ⟨o, es, ep, e', r⟩⟩
theorem ns_of_in {K : Frag} {h : Heap} {N : Addr} {n : Str} {v : Value} (X : K.In h) (q : nsOkIn K N = true) (e : nsIn K N n = some (some v)) : h.nsMap N n = some v := by
  have G : h.Ns N (h.nsMap N) := .of_isNs (isNs_of_in X q)
  obtain ⟨o, es, ep, ho, hd, _, hf⟩ := G
  unfold nsIn at e
  split at e
  · rename_i c d es' n' sl q
    have := X _ _ q
    rw [ho] at this
    cases this
    cases hd
    rw [← hf]
    unfold nsFind findBy
    rw [← Array.find?_toList]
    split at e
    · rename_i en he
      rw [he]
      simpa using e
    · split at e <;> cases e
  · cases e
theorem sig_facts (P : Params) : nsOkIn (Mine.hd.heap_1 P) 37 = true ∧ nsIn (Mine.hd.heap_1 P) 37 (Str.ofString "__init__") = some (some (.ref 35)) ∧ nsIn (Mine.hd.heap_1 P) 37 (Str.ofString "__setattr__") = some none
    ∧ nsIn (Mine.hd.heap_1 P) 37 (Str.ofString "symbol") = some none ∧ nsIn (Mine.hd.heap_1 P) 37 (Str.ofString "data") = some none ∧ nsIn (Mine.hd.heap_1 P) 37 (Str.ofString "__getattribute__") = some none ∧ nsIn (Mine.hd.heap_1 P) 37 (Str.ofString "__getattr__") = some none := by
  refine ⟨?_, ?_, ?_, ?_, ?_, ?_, ?_⟩ <;> kernel_rfl
theorem init_fn (P : Params) : typeIn (Mine.hd.heap_1 P) (.ref 35) = some (.type "function") := by kernel_rfl

abbrev excO (t : Addr) (d : Option Addr) : Obj := { cls := .ref 38, dict := d, data := .fields #[.ref t, .none, .none, .none, .bool false, .none] }

section
variable {w : World} {A : Around} {E : Value → Shared → Prop} {s : Shared} {h₀ : Heap} {L e ed t : Addr} {m mA : Str → Option Value} {news : Led} {name : Str} {v : Value}

theorem exc_call {a b : Value} {Q : Value → Shared → Prop} (F : Fr h₀ L s.heap m) (X : (Mine.hd.heap_1 w.params).In h₀) (N : News h₀ L s.heap news)
    (h : ∀ e t h', Fr h₀ L h' m → News h₀ L h' ((e, excO t none) :: news) → (∀ p ∈ news, p.1 ≠ e) →
      wpAny (model PySem.Challenge.rw_np0059_01.row.prog w) (A.under (.builtin "type.__call__" ⟨[.ref 38, a, b], []⟩)) (call (.ref 35) [.ref e, a, b]) (fun r s' => r = .none ∧ Q (.ref e) s') E { s with heap := h' }) :
    wpAny (model PySem.Challenge.rw_np0059_01.row.prog w) A (call (.ref 38) [a, b]) Q E s := by
  have X' := X.keeps F.keep
  obtain ⟨f1, f2, _⟩ := sig_facts w.params
  obtain ⟨oI, hI, hIc⟩ : ∃ oI, s.heap.get? 35 = some oI ∧ oI.cls = .type "function" := by
    have q := init_fn w.params
    unfold typeIn at q
    cases ho : (Mine.hd.heap_1 w.params).lookup 35 with
    | none => simp [ho] at q
    | some o => exact ⟨o, X' _ _ ho, by simpa [ho] using q⟩
  refine wpAny_call_exc_init PySem.F.excBase_Exception (cls38 X') (.of_isNs (isNs_of_in X' f1)) (ns_of_in X' f1 f2) hI hIc (fun h' e hm => ?_) (by rw [sizeLine_eq]; simp)
  obtain ⟨k, hn, t, he, _⟩ := hm
  refine h e t h' (F.keeps k) (fun p hp => ?_) fun p hp q => ?_
  · rcases List.mem_cons.mp hp with rfl | hp
    · refine ⟨he, fun q => ?_, ?_⟩
      · have := F.ns.lt
        obtain ⟨oL, _, _, hL, _⟩ := F.ns
        dsimp only at q
        rw [← q, hn] at hL; cases hL
      · cases q : h₀.get? e with
        | none => rfl
        | some o => rw [F.keep _ _ q] at hn; cases hn
    · exact ⟨k _ _ (N p hp).1, (N p hp).2⟩
  · have := (N p hp).1
    rw [q, hn] at this; cases this

end
section
variable {prog : Program} {w : World} {A : Around} {E : Value → Shared → Prop} {h : Heap} {g : Array GenState} {d : Drawn} {t : Nat} {os : OsState}
variable {nm q : Str} {C N x : Addr} {bs bm : List Value} {sn : List Str} {sub : List Value} {ab : Bool} {col : Option Bool} {dd : Option Addr} {k0 k1 k2 k3 k5 : Option Value} {B newId sa owner : String}
  {mN : Str → Option Value} {name : Str} {v : Value} {o : Obj}
theorem store0_entry {tk : Tok} {Q : Fin → Shared → Prop} (SF : StoreFacts B bm sa owner)
    (hC : h.get? C = some (excClassObj nm q C N bs bm true sn sub ab col dd k0 k1 k2 k3 k5 newId)) (hn : h.Ns N mN) (hna : mN name = none)
    (hB : typeLookup (.type B) name = pure none) (hx : h.get? x = some o) (hc : o.cls = .ref C) (hnc : ∀ c, o.data ≠ .cls c) (hdn : o.dict = none)
    (hq : ∀ h' tk', h'.get? x = some { o with dict := some h.objs.size } → h'.Ns1 h.objs.size (fun y => if y = name then some v else none) → (∀ b ob, b ≠ x → h.get? b = some ob → h'.get? b = some ob) → Q (.done (.ret .none)) ⟨h', g, d, tk', os⟩) :
    wpAny (model prog w) A (Builtin.«object.__setattr__» ⟨[.ref x, .str name tk, v], []⟩) Q E ⟨h, g, d, t, os⟩ := by
  have hpass := SF.passes (.ref x)
  unfold Builtin.«object.__setattr__»
  repeat (first | rw [refuse_eq] | (rw [refuseLoop_ref, hpass]) | (with_reducible refine wpAny_loadPart_at hx ?_; rw [hc]) | with_reducible refine wpAny_mroOf_exc hC ?_ | (with_reducible refine wpAny_typeLookup_exc hC hn SF.mro hB ?_; rw [hna]) | wp_step)
  rw [hdn, if_neg (by simp [typeHasDict])]
  split
  · rename_i hcd
    cases hcd
  split
  · rename_i c hcd
    exact absurd hcd (hnc c)
  · have hx₁ : (h.push { cls := .type "dict", data := .dict #[] }).get? x = some o := Heap.get?_push_of_some _ hx
    have hxs : x ≠ h.objs.size := Nat.ne_of_lt (Heap.lt_size hx)
    refine wpAny_bind (wpAny_alloc' (wpAny_bind (wpAny_update' hx₁ (wpAny_pure ?_))))
    have hgd : ((h.push { cls := .type "dict", data := .dict #[] }).update x fun o => { cls := o.cls, dict := some h.objs.size, data := o.data, slots := o.slots }).get? h.objs.size = some { cls := .type "dict", data := .dict #[] } :=
      (Heap.get?_update_ne _ _ _ _ hxs.symm).trans (Heap.get?_push_at rfl rfl)
    have hnd : ((h.push { cls := .type "dict", data := .dict #[] }).update x fun o => { cls := o.cls, dict := some h.objs.size, data := o.data, slots := o.slots }).Ns h.objs.size (fun _ => none) :=
      ⟨_, #[], _, hgd, rfl, fun e he => absurd he (by simp), fun _ => rfl⟩
    show wpAny _ _ (storeInDict h.objs.size (.str name tk) name v) _ _ _
    unfold storeInDict newKeyGuard
    refine wpAny_bind (wpAny_pure (wpAny_bind (wpAny_nsSet1 (Heap.Ns1.of_empty hnd) fun h' hn' hs => ?_)))
    obtain ⟨oD, esD, epD, hoD, hdD, hcD⟩ := hn'.count (Within.cons name v Within.nil)
    refine wpAny_bind (wpAny_lookBehind hoD (by rw [hdD]; exact pastItsLine_dict (Nat.le_trans hcD (by rw [List.length_cons, List.length_nil, sizeLine_eq]; lia))) ?_)
    wp_walk
    refine hq h' _ ((hs.2 x hxs).trans (Heap.get?_update_self _ hx₁ ?_)) hn' fun b ob hbx hb => (hs.2 b (Nat.ne_of_lt (Heap.lt_size hb))).trans ((Heap.get?_update_ne _ _ _ _ hbx).trans (Heap.get?_push_of_some _ hb))
    have hfr := (Heap.get?_some_iff.mp hx).2
    obtain ⟨oc, od, odt, osl⟩ := o
    cases odt <;> first | rfl | exact hfr
theorem store0_attr {Q : Unit → Shared → Prop} (SF : StoreFacts B bm sa owner)
    (hC : h.get? C = some (excClassObj nm q C N bs bm true sn sub ab col dd k0 k1 k2 k3 k5 newId)) (hn : h.Ns N mN) (hns : mN "__setattr__" = none) (hna : mN name = none)
    (hB : typeLookup (.type B) name = pure none) (hx : h.get? x = some o) (hc : o.cls = .ref C) (hnc : ∀ c, o.data ≠ .cls c) (hdn : o.dict = none)
    (hq : ∀ h' tk', h'.get? x = some { o with dict := some h.objs.size } → h'.Ns1 h.objs.size (fun y => if y = name then some v else none) → (∀ b ob, b ≠ x → h.get? b = some ob → h'.get? b = some ob) → Q () ⟨h', g, d, tk', os⟩) :
    wpAny (model prog w) A (setAttr (.ref x) name v) Q E ⟨h, g, d, t, os⟩ := by
  have f3 := SF.slot.bind (.ref x)
  unfold setAttr callSpecial? specialOf
  repeat (any_goals (first | assumption | (with_reducible refine wpAny_loadPart_at hx ?_; rw [hc]) | (with_reducible refine wpAny_typeLookup_exc hC hn SF.mro SF.slot.lookup ?_; rw [hns]) | wp_step))
  refine codeAny_call_builtin SF.slot.plain SF.entry (wpAny_check_sa SF hC hx hc (store0_entry SF hC hn hna hB hx hc hnc hdn fun h' tk' a b k => ?_))
  repeat (any_goals (first | assumption | wp_step))
  exact hq h' tk' a b k
/-- what the object's own dict holds -/
theorem own_entry {tk : Tok} {Q : Fin → Shared → Prop} {mA : Str → Option Value} {dx : Addr} (SF : StoreFacts B bm sa owner)
    (hC : h.get? C = some (excClassObj nm q C N bs bm true sn sub ab col dd k0 k1 k2 k3 k5 newId)) (hn : h.Ns N mN) (hna : mN name = none)
    (hB : typeLookup (.type B) name = pure none) (hx : h.get? x = some o) (hc : o.cls = .ref C) (hnc : ∀ c, o.data ≠ .cls c) (hdx : o.dict = some dx) (hd1 : h.Ns1 dx mA) (hv : mA name = some v) (hq : Q (.done (.ret v)) ⟨h, g, d, t, os⟩) :
    wpAny (model prog w) A (Builtin.«object.__getattribute__» ⟨[.ref x, .str name tk], []⟩) Q E ⟨h, g, d, t, os⟩ := by
  unfold Builtin.«object.__getattribute__»
  repeat (first | (with_reducible refine wpAny_loadPart_at hx ?_; rw [hc]) | (with_reducible refine wpAny_typeLookup_exc hC hn SF.mro hB ?_; rw [hna]) | wp_step)
  split
  · rename_i c hcd
    exact absurd hcd (hnc c)
  unfold instanceDict
  repeat (first | (with_reducible refine wpAny_loadPart_at hx ?_; rw [hc]) | with_reducible refine wpAny_loadPart_at hC ?_ | wp_step)
  rw [hdx]
  repeat (first | (with_reducible refine wpAny_nsGet hd1.ns ?_; rw [hv]) | wp_step)
  exact hq
end
end
section
open PySem PySem.W PyProof.Rows PySem.Calls PySem.Spec PyProof.V Builtin Builtin.ObjectAttr
section
variable {prog : Program} {w : World} {A : Around} {E : Value → Shared → Prop} {h : Heap} {g : Array GenState} {d : Drawn} {t : Nat} {os : OsState}
variable {nm q : Str} {C N x : Addr} {bs bm : List Value} {sn : List Str} {sub : List Value} {ab : Bool} {col : Option Bool} {dd : Option Addr} {k0 k1 k2 k3 k5 : Option Value} {B newId sa owner : String}
  {mN : Str → Option Value} {name : Str} {v : Value} {o : Obj}
theorem own_attr {expr : Bool} {Q : Value → Shared → Prop} {mA : Str → Option Value} {dx : Addr} (SF : StoreFacts B bm sa owner) (FB : ExcAttrBase B bm)
    (hC : h.get? C = some (excClassObj nm q C N bs bm true sn sub ab col dd k0 k1 k2 k3 k5 newId)) (hn : h.Ns N mN) (hna : mN name = none) (hng : mN "__getattribute__" = none) (hnh : mN "__getattr__" = none)
    (hB : typeLookup (.type B) name = pure none) (hx : h.get? x = some o) (hc : o.cls = .ref C) (hnc : ∀ c, o.data ≠ .cls c) (hdx : o.dict = some dx) (hd1 : h.Ns1 dx mA) (hv : mA name = some v) (hh : handedOut v = pure v) (hq : Q v ⟨h, g, d, t + 1, os⟩) :
    wpAny (model prog w) A (getAttr (.ref x) name expr) Q E ⟨h, g, d, t, os⟩ := by
  have f3 := FB.ga.bind (.ref x)
  have hx0 : (expr && onTheHeap (Value.builtin "BaseException.__getattribute__")) = false := by cases expr <;> rfl
  have hx2 : (Value.builtin "BaseException.__getattribute__" == Value.builtin "object.__getattribute__") = false := by decide +kernel
  have hx1 : (onTheHeap (Value.ref C) && Value.builtin "BaseException.__getattribute__" == Value.builtin "object.__getattribute__") = false := by rw [hx2]; rfl
  have hcB : (Value.ref C :: bm).contains (.type "BaseException") = true := by rw [List.contains_cons, FB.hasBase, Bool.or_true]
  unfold getAttr
  repeat (any_goals (first | assumption | (with_reducible refine wpAny_loadPart_at hx ?_; rw [hc]) | (with_reducible refine wpAny_typeLookup_exc hC hn SF.mro FB.ga.lookup ?_; rw [hng]) | (with_reducible refine wpAny_typeLookup_exc hC hn SF.mro FB.noGetattr ?_; rw [hnh]) | wp_step))
  have ck : ∀ {Q : Unit → Shared → Prop} {A' : Around} {E' : Value → Shared → Prop} {tk : Nat} {nv : Value}, Q () ⟨h, g, d, tk, os⟩ → wpAny (model prog w) A' (checkBuiltinCall "BaseException.__getattribute__" ⟨[.ref x, nv], []⟩) Q E' ⟨h, g, d, tk, os⟩ := by
    intro Q A' E' tk nv hq
    have hk : builtinKind "BaseException.__getattribute__" = some .slot := by decide +kernel
    have hs : splitId "BaseException.__getattribute__" = some ("BaseException", "__getattribute__") := by decide +kernel
    have ha := PySem.F.args_bexc_ga (.ref x) nv
    simp only [checkBuiltinCall, hk, hs]
    refine wpAny_bind ?_
    unfold isInstance
    repeat (first | (with_reducible refine wpAny_loadPart_at hx ?_; rw [hc]) | (with_reducible refine wpAny_isSubtype_exc hC ?_; rw [hcB]) | wp_step)
    exact hq
  refine codeAny_call_builtin FB.ga.plain PySem.F.entry_bexc_ga (ck (own_entry SF hC hn hna hB hx hc hnc hdx hd1 hv ?_))
  repeat (any_goals (first | assumption | wp_step))
end
theorem lk_exc (name : Str) (h : name = Str.ofString "symbol" ∨ name = Str.ofString "data") : typeLookup (.type "Exception") name = pure none := by
  rcases h with rfl | rfl <;> (rw [typeLookup_type, builtinLookup_eq_fast]; kernel_rfl)
section
variable {w : World} {A : Around} {E : Value → Shared → Prop} {s : Shared} {h₀ : Heap} {L e ed t : Addr} {m mA : Str → Option Value} {news : Led} {name : Str} {v : Value}
theorem excO_notcls (t : Addr) (d : Option Addr) : ∀ c, (excO t d).data ≠ .cls c := fun c q => by cases q
theorem exc_store0 {Q : Unit → Shared → Prop} (F : Fr h₀ L s.heap m) (X : (Mine.hd.heap_1 w.params).In h₀) (N : News h₀ L s.heap ((e, excO t none) :: news)) (hne : ∀ p ∈ news, p.1 ≠ e)
    (hna : nsIn (Mine.hd.heap_1 w.params) 37 name = some none) (hB : typeLookup (.type "Exception") name = pure none)
    (h : ∀ h' tk' ed oD, Fr h₀ L h' m → News h₀ L h' ((e, excO t (some ed)) :: (ed, oD) :: news) → NsObj ed oD (fun y => if y = name then some v else none) → (∀ p ∈ news, p.1 ≠ ed) → ed ≠ e → Q () { s with heap := h', toks := tk' }) :
    wpAny (model PySem.Challenge.rw_np0059_01.row.prog w) A (setAttr (.ref e) name v) Q E s := by
  have X' := X.keeps F.keep
  obtain ⟨f1, f2, f3, _⟩ := sig_facts w.params
  have hx := N _ (.head _)
  have hes : e ≠ s.heap.objs.size := Nat.ne_of_lt (Heap.lt_size hx.1)
  refine store0_attr PySem.F.store_Exception (cls38 X') (.of_isNs (isNs_of_in X' f1)) (nsMap_none_of_in X' f1 f3) (nsMap_none_of_in X' f1 hna) hB hx.1 rfl (excO_notcls _ _) rfl fun h' tk' a b k => ?_
  obtain ⟨oD, hD, hN⟩ := nsObj_of b
  have F' : Fr h₀ L h' m := by
    obtain ⟨oL, es, ep, hL, r⟩ := F.ns
    refine ⟨⟨oL, es, ep, k _ _ hx.2.1.symm hL, r⟩, fun b o q => k b o (fun z => ?_) (F.keep b o q), F.above⟩
    rw [z, hx.2.2] at q; cases q
  refine h h' tk' s.heap.objs.size oD F' (fun p hp => ?_) hN (fun p hp => Nat.ne_of_lt (Heap.lt_size (N p (.tail _ hp)).1)) hes.symm
  rcases List.mem_cons.mp hp with rfl | hp
  · exact ⟨a, hx.2⟩
  rcases List.mem_cons.mp hp with rfl | hp
  · refine ⟨hD, Nat.ne_of_gt F.ns.lt, ?_⟩
    cases q : h₀.get? s.heap.objs.size with
    | none => rfl
    | some o => exact absurd (Heap.lt_size (F.keep _ _ q)) (Nat.lt_irrefl _)
  · have := N p (.tail _ hp)
    exact ⟨k _ _ (hne p hp) this.1, this.2⟩
theorem exc_store1 {oD : Obj} {Q : Unit → Shared → Prop} {ns : List Str} (F : Fr h₀ L s.heap m) (X : (Mine.hd.heap_1 w.params).In h₀) (N : News h₀ L s.heap ((e, excO t (some ed)) :: (ed, oD) :: news)) (hne : ∀ p ∈ news, p.1 ≠ e) (hned : ∀ p ∈ news, p.1 ≠ ed) (hee : ed ≠ e) (hO : NsObj ed oD mA)
    (hna : nsIn (Mine.hd.heap_1 w.params) 37 name = some none) (hB : typeLookup (.type "Exception") name = pure none)
    (h : ∀ h' tk' oD', Fr h₀ L h' m → News h₀ L h' ((e, excO t (some ed)) :: (ed, oD') :: news) → NsObj ed oD' (fun y => if y = name then some v else mA y) → Q () { s with heap := h', toks := tk' }) (hw : Within mA ns) (hsz : ns.length ≤ sizeLine) :
    wpAny (model PySem.Challenge.rw_np0059_01.row.prog w) A (setAttr (.ref e) name v) Q E s := by
  have X' := X.keeps F.keep
  obtain ⟨f1, f2, f3, _⟩ := sig_facts w.params
  have hx := N _ (.head _)
  have hd := N _ (.tail _ (.head _))
  have h38 : e ≠ 38 := fun q => by have := hx.1; rw [q, cls38 X'] at this; cases this
  have I : s.heap.Inst e 38 mA := ⟨_, hx.1, rfl, excO_notcls _ _, .inr ⟨ed, rfl, hee, hO _ hd.1⟩⟩
  refine store_attr PySem.F.store_Exception (cls38 X') (.of_isNs (isNs_of_in X' f1)) (nsMap_none_of_in X' f1 f3) (nsMap_none_of_in X' f1 hna) hB h38 I (fun h' tk' I' k same => ?_) hw hsz
  obtain ⟨o₁, h1, c1, d1, s1, q1⟩ := same _ hx.1
  have hdx := q1 ed rfl
  have ho : o₁ = excO t (some ed) := by
    obtain ⟨oc, od, odt, osl⟩ := o₁
    dsimp only at c1 d1 s1 hdx
    subst c1 d1 s1 hdx
    rfl
  subst ho
  obtain ⟨o2, h2, _, _, hor⟩ := I'
  rw [h1] at h2
  cases h2
  rcases hor with ⟨z, _⟩ | ⟨d2, z, _, hN2⟩
  · cases z
  cases z
  obtain ⟨oD', hD', hNO⟩ := nsObj_of hN2
  have k' : ∀ b o, b ≠ e → b ≠ ed → s.heap.get? b = some o → h'.get? b = some o := fun b o n1 n2 q => k b o n1 (fun o₀ dx z1 z2 => by rw [hx.1] at z1; cases z1; cases z2; exact n2) q
  have F' : Fr h₀ L h' m := by
    obtain ⟨oL, es, ep, hL, r⟩ := F.ns
    refine ⟨⟨oL, es, ep, k' _ _ hx.2.1.symm hd.2.1.symm hL, r⟩, fun b o q => k' b o (fun z => ?_) (fun z => ?_) (F.keep b o q), F.above⟩
    · rw [z, hx.2.2] at q; cases q
    · rw [z, hd.2.2] at q; cases q
  refine h h' tk' oD' F' (fun p hp => ?_) hNO
  rcases List.mem_cons.mp hp with rfl | hp
  · exact ⟨h1, hx.2⟩
  rcases List.mem_cons.mp hp with rfl | hp
  · exact ⟨hD', hd.2⟩
  · have := N p (.tail _ (.tail _ hp))
    exact ⟨k' _ _ (hne p hp) (hned p hp) this.1, this.2⟩
theorem exc_read {oe oD : Obj} {expr : Bool} {Q : Value → Shared → Prop} (F : Fr h₀ L s.heap m) (X : (Mine.hd.heap_1 w.params).In h₀) (N : News h₀ L s.heap news) (hm : (e, oe) ∈ news) (hP : ExcP ed oe) (hdt : ∃ vs, oe.data = .fields vs) (hmd : (ed, oD) ∈ news) (hO : NsObj ed oD mA)
    (hv : mA (Str.ofString "symbol") = some v) (hh : handedOut v = pure v) (h : Q v { s with toks := s.toks + 1 }) :
    wpAny (model PySem.Challenge.rw_np0059_01.row.prog w) A (getAttr (.ref e) (Str.ofString "symbol") expr) Q E s := by
  have X' := X.keeps F.keep
  obtain ⟨f1, f2, f3, f4, f5, f6, f7⟩ := sig_facts w.params
  obtain ⟨vs, hdt⟩ := hdt
  exact own_attr PySem.F.store_Exception PySem.F.attrBase_Exception (cls38 X') (.of_isNs (isNs_of_in X' f1)) (nsMap_none_of_in X' f1 f4) (nsMap_none_of_in X' f1 f6) (nsMap_none_of_in X' f1 f7) (lk_exc _ (.inl rfl)) (N _ hm).1 hP.1 (fun c q => by rw [hdt] at q; cases q) hP.2 (hO _ (N _ hmd).1) hv hh h
def RaiseK (P : Params) (E : Value → Shared → Prop) (v : Value) (s : Shared) : Prop := ∃ e oe vs, v = .ref e ∧ s.heap.get? 38 = some sigObj ∧ s.heap.get? e = some oe ∧ oe.cls = .ref 38 ∧ oe.data = .fields vs ∧ vs[1]? = some .none ∧ E (.ref e) s
theorem raise_K {env : Env} {x : Expr} {pos : Pos} {Q : Flow → Shared → Prop} (hh : A.handled = none)
    (h : wpAny (model PySem.Challenge.rw_np0059_01.row.prog w) A (eval x env) (RaiseK w.params E) E s) : wpAny (model PySem.Challenge.rw_np0059_01.row.prog w) A (exec (.Raise (some x) none pos) env) Q E s := by
  have key : ∀ {y : Sem Value}, wpAny (model PySem.Challenge.rw_np0059_01.row.prog w) A y (RaiseK w.params E) E s → wpAny (model PySem.Challenge.rw_np0059_01.row.prog w) A (raiseStmt env (some y) none) Q E s := by
    intro y h
    unfold raiseStmt
    refine wpAny_bind (wpAny_mono h (fun v s₁ h₁ => ?_) fun _ _ x => x)
    obtain ⟨e, oe, vs, rfl, hC, he, hc, hd, h1, hE⟩ := h₁
    obtain ⟨hp, g, d, tk, os⟩ := s₁
    have hcB : ([Value.ref 38, .type "Exception", .type "BaseException", .type "object"]).contains (.type "BaseException") = true := by decide
    repeat (first | (with_reducible refine wpAny_loadPart_at he ?_; rw [hc]) | with_reducible refine wpAny_loadPart_at hC ?_ | (with_reducible refine wpAny_isSubtype_exc hC ?_; rw [hcB]) | with_reducible refine wpAny_field he hd h1 ?_ | wp_step)
    exact wpAny_raiseNew_none hh hE
  rw [arm_exec_Raise]
  exact wpAny_bind (wpAny_standAt (key (wpAny_bind (wpAny_mono h (fun v s₁ h₁ => wpAny_bind (wpAny_standAt (wpAny_pure h₁))) fun _ _ x => x))))
end
end
section
open PySem PySem.W PyProof.Rows PySem.Calls PySem.Spec PyProof.V
/-- what a call that always raises does -/
def RaisesOk (w : World) (mean : ExcName → Option Value) (mg mb : Str → Option Value) (f : Value) (args : List Value) (dn un₀ : Nat) (Pre : Led → Prop) (sy : Str) : Prop :=
  ∀ (dp un : Nat) (gd : Option (List Code)) (cn : Str) (cs : Scope) (a : Addr) (ccd : Value) (cl : List (Str × Addr)) (outer : List Env) (A₀ : Around) (base h₀ : Heap) (L : Addr) (m : Str → Option Value) (news : Led) (s : Shared)
    (Q E : Value → Shared → Prop),
    Below A₀ base outer h₀ → Fr h₀ L s.heap m → (Mine.hd.heap_1 w.params).In h₀ → News h₀ L s.heap news → Top Mine.view (looseW Mine.view Mine.loose) mean mg mb h₀ → cs.kind = .function → Pre news → dp + dn < recursionLimit → un + un₀ < cLine →
    (∀ e ed oD mA tk g h' tk', Fr h₀ L g m → g.UpToSlots h' → RaisedP (ExcP ed) base (envX cn cs L a ccd cl :: outer) e ((ed, oD) :: news) h' → NsObj ed oD mA → mA (Str.ofString "symbol") = some (.str sy tk) → E (.ref e) { s with heap := h', toks := tk' }) →
    wpAny (model PySem.Challenge.rw_np0059_01.row.prog w) (ktrTop dp un gd cn cs L a ccd cl outer) (call f args) Q E s
theorem RaisesOk.use {w : World} {mean : ExcName → Option Value} {mg mb : Str → Option Value} {f : Value} {args : List Value} {dn un₀ : Nat} {Pre : Led → Prop} {sy : Str} {dp un : Nat} {gd : Option (List Code)} {cn : Str} {cs : Scope} {a : Addr} {ccd : Value} {cl : List (Str × Addr)} {outer : List Env} {A₀ : Around} {base h₀ : Heap} {L : Addr} {m : Str → Option Value} {news : Led} {s : Shared}
    {Q E : Value → Shared → Prop} (C : RaisesOk w mean mg mb f args dn un₀ Pre sy)
    (B : Below A₀ base outer h₀) (F : Fr h₀ L s.heap m) (X : (Mine.hd.heap_1 w.params).In h₀) (N : News h₀ L s.heap news) (T : Top Mine.view (looseW Mine.view Mine.loose) mean mg mb h₀) (hk : cs.kind = .function) (hp : Pre news) (hd : dp + dn < recursionLimit) (hu : un + un₀ < cLine)
    (exc : ∀ e ed oD mA tk g h' tk', Fr h₀ L g m → g.UpToSlots h' → RaisedP (ExcP ed) base (envX cn cs L a ccd cl :: outer) e ((ed, oD) :: news) h' → NsObj ed oD mA → mA (Str.ofString "symbol") = some (.str sy tk) → E (.ref e) { s with heap := h', toks := tk' }) :
    wpAny (model PySem.Challenge.rw_np0059_01.row.prog w) (ktrTop dp un gd cn cs L a ccd cl outer) (call f args) Q E s :=
  C dp un gd cn cs a ccd cl outer A₀ base h₀ L m news s Q E B F X N T hk hp hd hu exc
theorem RaisedP.sub {P : Obj → Prop} {base h : Heap} {l : List Env} {e : Addr} {news news' : Led} (R : RaisedP P base l e news h) (hs : ∀ p ∈ news', p ∈ news) : RaisedP P base l e news' h :=
  let ⟨B, a, b, c⟩ := R; ⟨B, a, fun q hq => b q (hs q hq), c⟩
theorem raiseK_intro {P : Params} {s : Shared} {h₀ : Heap} {L e t : Addr} {d : Option Addr} {m : Str → Option Value} {news : Led} {E : Value → Shared → Prop} (F : Fr h₀ L s.heap m) (X : (Mine.hd.heap_1 P).In h₀) (N : News h₀ L s.heap news) (hm : (e, excO t d) ∈ news) (h : E (.ref e) s) : RaiseK P E (.ref e) s :=
  ⟨e, _, _, rfl, cls38 (X.keeps F.keep), (N _ hm).1, rfl, rfl, rfl, h⟩
def alongI (s : Int) : Int := if s = 2 then 0 else 1
def sortI (a : Int) : Int := if a = 0 then 2 else 1
def leastI (a : Int) : Int := if a = 0 then 3 else 2
def sizeI (a : Int) (r : WR) : Int := if a = 0 then r.width else r.height
def setSizeI (a v : Int) (r : WR) : WR := if a = 0 then { r with width := v } else { r with height := v }
theorem all_succ2 {d : Addr} {l : Led} (h : ∀ p ∈ l, p.1 < d) : ∀ p ∈ l, p.1 ≠ d + 1 + 1 := fun p hp => Nat.ne_of_lt (Nat.lt_succ_of_lt (Nat.lt_succ_of_lt (h p hp)))
theorem all_succ {d : Addr} {l : Led} (h : ∀ p ∈ l, p.1 < d) : ∀ p ∈ l, p.1 ≠ d + 1 := fun p hp => Nat.ne_of_lt (Nat.lt_succ_of_lt (h p hp))
section
variable {M : Model} {A : Around} {E : Value → Shared → Prop} {s' : Shared} {base g g₂ : Heap} {outer : List Env} {L a e ed : Addr} {m : Str → Option Value} {name : Str} {scope : Scope} {cd : Value} {Q : Unit → Shared → Prop} {news : Led}
theorem leave_firstX {oe : Obj} {vs : Array Value} (hpo : ExcP ed oe) (K : Below A base outer g) (F : Fr g L s'.heap m) (N : News g L s'.heap ((e, oe) :: news)) (hne : ∀ q ∈ news, q.1 ≠ e) (hd : oe.data = .fields vs) (h1 : vs[1]? = some .none)
    (hQ : ∀ h', RaisedP (ExcP ed) base outer e news h' → g.UpToSlots h' → Q () { s' with heap := h' }) (hk : scope.kind = .function := by rfl) :
    wpAny M (A.deeper (envOf name scope L a cd)) (leaving (envOf name scope L a cd) (.ref e)) Q E s' := leave_firstP (ExcP.still ed) hpo K F N hne hd h1 hQ hk
theorem leave_onX (K : Below A base outer g) (F : Fr g L g₂ m) (R : RaisedP (ExcP ed) base (envOf name scope L a cd :: outer) e news s'.heap) (hsm : g₂.UpToSlots s'.heap)
    (hQ : ∀ h', RaisedP (ExcP ed) base outer e news h' → g.UpToSlots h' → Q () { s' with heap := h' }) :
    wpAny M (A.deeper (envOf name scope L a cd)) (leaving (envOf name scope L a cd) (.ref e)) Q E s' := leave_onP (ExcP.still ed) K F R hsm hQ
end
def manyTag (front : Led) (tag : Addr → Nat × Int) : Addr → Nat × Int := fun a => if a ∈ front.map (·.1) then (7, 0) else tag a
theorem TreeIn.keeps {w : World} {l : Led} {S : TS} (H : TreeIn w l S) (front : Led) (h : ∀ p ∈ front, ∀ q ∈ l, q.1 ≠ p.1) : TreeIn w (front ++ l) { S with ex := front ++ S.ex } := by
  obtain ⟨tag, H⟩ := H
  have H2 := (H.retag (tag' := manyTag front tag) fun p hp => if_neg fun hm => by
    obtain ⟨q, hq, e⟩ := List.mem_map.mp hm
    exact h q hq p hp e.symm).mono (fun p hp => List.mem_append_right front hp)
  exact ⟨manyTag front tag, { H2 with
    td := let ⟨j, h⟩ := H2.td; ⟨j, h⟩
    ex := fun p hp => by
      rcases List.mem_append.mp hp with hp | hp
      · exact List.mem_append_left _ hp
      · exact H2.ex p hp
    ge := fun p hp => by
      rcases List.mem_append.mp hp with hp | hp
      · have hm : p.1 ∈ front.map (·.1) := List.mem_map.mpr ⟨p, hp, rfl⟩
        unfold manyTag; rw [if_pos hm]
      · exact H2.ge p hp }⟩
theorem keepsN (k : Nat) {w : World} {h₀ h : Heap} {L : Addr} {all : Led} {S : TS} (N : News h₀ L h all) (H : TreeIn w (all.drop k) S) (hh : ∀ p ∈ all.take k, ∀ q ∈ all.drop k, q.1 ≠ p.1) :
    ∃ S8 : TS, S8 = { S with ex := all.take k ++ S.ex } ∧ TreeIn w all S8 := by
  refine ⟨_, rfl, ?_⟩
  have := H.keeps (all.take k) hh
  rwa [List.take_append_drop] at this
end
section
open PySem PySem.W PyProof.Rows PySem.Calls PySem.Spec PyProof.V
def WEndM {σ : Type} (h₀ : Heap) (L : Addr) (s : Shared) (Ld : σ → Led) (stored : List Str) (M : σ → Str → Option Value) (P : σ → Prop) (μ : σ → Nat) (c : σ) (s₂ : Shared) : Prop :=
  ∃ (c' : σ) (h' : Heap) (tk : Nat) (m' : Str → Option Value) (news' : Led), s₂ = { s with heap := h', toks := tk } ∧ Fr h₀ L h' m' ∧ News h₀ L h' news' ∧ (∀ p ∈ Ld c', p ∈ news') ∧ (∀ z, stored.contains z = false → m' z = M c' z) ∧ P c' ∧ μ c' < μ c
def WPostM {σ : Type} (h₀ : Heap) (L : Addr) (s : Shared) (Ld : σ → Led) (stored : List Str) (M : σ → Str → Option Value) (P : σ → Prop) (μ : σ → Nat) (Q : Flow → Shared → Prop) (c : σ) (f : Flow) (s₂ : Shared) : Prop :=
  match f with
  | .ret v => Q (.ret v) s₂
  | .brk => Q .next s₂
  | _ => WEndM h₀ L s Ld stored M P μ c s₂
section
variable {prog : Program} {w : World} {A : Around} {E : Value → Shared → Prop} {Q : Flow → Shared → Prop} {s : Shared} {env : Env} {h₀ : Heap} {L : Addr}
theorem while_M {σ : Type} {test : Expr} {body : List Stmt} {pos : Pos} {m₀ : Str → Option Value} (Ld : σ → Led) (stored : List Str) (P : σ → Prop) (μ : σ → Nat) (c₀ : σ) (M : σ → Str → Option Value) (hm0 : ∀ z, stored.contains z = false → m₀ z = M c₀ z)
    (F : Fr h₀ L s.heap m₀) (N : News h₀ L s.heap (Ld c₀)) (hp : P c₀)
    (turn : ∀ (c : σ) (u : Str → Option Value) h tk, P c → Fr h₀ L h (fun z => if stored.contains z then u z else M c z) → News h₀ L h (Ld c) →
      wpAny (model prog w) A (isTrue test env (eval test env)) (fun b s₂ =>
        if b = true then wpAny (model prog w) A (execs body env) (WPostM h₀ L s Ld stored M P μ Q c) E s₂ else Q .next s₂) E { s with heap := h, toks := tk })
    (hE : PassesOwn (model prog w) A env E := by passes_own) :
    wpAny (model prog w) A (exec (.While test body [] pos) env) Q E s := by
  refine While_inv2 (fun n m nx => ∃ c : σ, nx = Ld c ∧ μ c = n ∧ (∀ z, stored.contains z = false → m z = M c z) ∧ P c) F N ⟨c₀, rfl, rfl, hm0, hp⟩ ?_ hE
  rintro n m₁ nx h tk F₁ N₁ ⟨c, hnx, hsz, h2, hp'⟩
  rw [hnx] at N₁
  rw [← hsz]
  have em : (fun z => if stored.contains z then m₁ z else M c z) = m₁ := by
    funext z
    cases h3 : stored.contains z with
    | true => simp
    | false => simp only [Bool.false_eq_true, if_false]; exact (h2 z h3).symm
  refine wpAny_mono (turn c m₁ h tk hp' (by rw [em]; exact F₁) N₁) (fun b s₂ p => ?_) fun _ _ x => x
  cases b with
  | false => simpa using p
  | true =>
    simp only [if_true] at p ⊢
    refine wpAny_mono p (fun f s₃ q => ?_) fun _ _ x => x
    cases f with
    | ret v => exact q
    | brk => exact q
    | next =>
      obtain ⟨c', h', tk', m', news', rfl, F', N', hn, hr9, hp9, hm9⟩ := q
      exact ⟨h', tk', m', Ld c', μ c', rfl, F', fun p hp => N' p (hn p hp), hm9, c', rfl, rfl, hr9, hp9⟩
    | cont =>
      obtain ⟨c', h', tk', m', news', rfl, F', N', hn, hr9, hp9, hm9⟩ := q
      exact ⟨h', tk', m', Ld c', μ c', rfl, F', fun p hp => N' p (hn p hp), hm9, c', rfl, rfl, hr9, hp9⟩
theorem while_endM {σ : Type} {s : Shared} {Ld : σ → Led} {stored : List Str} {M : σ → Str → Option Value} {m' : Str → Option Value} {P : σ → Prop} {μ : σ → Nat} {c : σ} {h' : Heap} {tk : Nat} {news' : Led} (c' : σ)
    (F : Fr h₀ L h' m') (N : News h₀ L h' news') (hn : ∀ p ∈ Ld c', p ∈ news') (hr : ∀ z, stored.contains z = false → m' z = M c' z) (hp : P c') (hm : μ c' < μ c) :
    WEndM h₀ L s Ld stored M P μ c { s with heap := h', toks := tk } := ⟨c', h', tk, m', news', rfl, F, N, hn, hr, hp, hm⟩
end
def FEndM {σ : Type} (h₀ : Heap) (L : Addr) (I : Addr) (oi : Obj) (Ld : σ → Led) (stored : List Str) (M : σ → Str → Option Value) (P : σ → Prop) (s s₂ : Shared) : Prop :=
  ∃ (c' : σ) (h' : Heap) (tk : Nat) (m' : Str → Option Value) (news' : Led), s₂ = { s with heap := h', toks := tk } ∧ Fr h₀ L h' m' ∧ News h₀ L h' news' ∧ (I, oi) ∈ news' ∧ (∀ p ∈ Ld c', p ∈ news') ∧ (∀ p ∈ Ld c', p.1 ≠ I) ∧ (∀ z, stored.contains z = false → m' z = M c' z) ∧ P c'
def FPostM {σ : Type} (h₀ : Heap) (L : Addr) (I : Addr) (oi : Obj) (Ld : σ → Led) (stored : List Str) (M : σ → Str → Option Value) (P : σ → Prop) (s : Shared) (Q : Flow → Shared → Prop) (f : Flow) (s₂ : Shared) : Prop :=
  match f with
  | .ret v => Q (.ret v) s₂
  | .brk => Q .next s₂
  | _ => FEndM h₀ L I oi Ld stored M P s s₂
section
variable {prog : Program} {w : World} {A : Around} {E : Value → Shared → Prop} {Q : Flow → Shared → Prop} {s : Shared} {env : Env} {h₀ : Heap} {x : Str} {body : List Stmt}
theorem fend_introM {σ : Type} {L I : Addr} {oi : Obj} {s : Shared} {Ld : σ → Led} {stored : List Str} {M : σ → Str → Option Value} {m' : Str → Option Value} {P : σ → Prop} {h' : Heap} {tk : Nat} {news' : Led} (c' : σ)
    (F : Fr h₀ L h' m') (N : News h₀ L h' news') (hI : (I, oi) ∈ news') (hn : ∀ p ∈ Ld c', p ∈ news') (hne : ∀ p ∈ Ld c', p.1 ≠ I) (hr : ∀ z, stored.contains z = false → m' z = M c' z) (hp : P c') :
    FEndM h₀ L I oi Ld stored M P s { s with heap := h', toks := tk } := ⟨c', h', tk, m', news', rfl, F, N, hI, hn, hne, hr, hp⟩

/-- a for over a list of the ledger, by an invariant over a state of one's own -/
theorem for_listM {σ : Type} {l : Addr} {vs : List Value} {nn : Nat} {m₀ : Str → Option Value} (Ld : σ → Led) (stored : List Str) (P : Nat → σ → Prop) (c₀ : σ) (M : σ → Str → Option Value) (hm0 : ∀ z, (x :: stored).contains z = false → m₀ z = M c₀ z)
    (hh : A.handled = none) (hl : ∀ i c, P i c → (l, listOf vs.toArray nn) ∈ Ld c) (F : Fr h₀ env.locals s.heap m₀) (N : News h₀ env.locals s.heap (Ld c₀)) (hp : P 0 c₀)
    (turn : ∀ i v I oi c (u : Str → Option Value) h tk, vs[i]? = some v → P i c → (∀ p ∈ Ld c, p.1 ≠ I) → Fr h₀ env.locals h (fun y => if y = x then some v else if stored.contains y then u y else M c y) → News h₀ env.locals h ((I, oi) :: Ld c) →
      wpAny (model prog w) A (execs body env) (FPostM h₀ env.locals I oi Ld (x :: stored) M (P (i + 1)) { s with heap := h, toks := tk } Q) E { s with heap := h, toks := tk })
    (done : ∀ c (u : Str → Option Value) h tk, P vs.length c → Fr h₀ env.locals h (fun y => if (x :: stored).contains y then u y else M c y) → News h₀ env.locals h (Ld c) → Q .next { s with heap := h, toks := tk }) :
    wpAny (model prog w) A (pyIter (.ref l)) (fun it s₂ => LoopAtV prog w A h₀ env x body Q E it s₂) E s := by
  have hol : s.heap.get? l = some (listOf vs.toArray nn) := (N _ (hl _ _ hp)).1
  have hls : s.heap.IsList l vs.toArray := ⟨_, hol, rfl, nn, rfl⟩
  have hne : l ≠ s.heap.objs.size := Nat.ne_of_lt (Heap.lt_size hol)
  refine wpAny_pyIter_list hls ?_
  have W := Walks.list (prog := prog) (w := w) hh s.heap.objs.size l hne vs.toArray
  have hlen : vs.toArray.size = vs.length := by simp
  rw [hlen] at W
  refine ⟨_, _, _, vs.length, _, _, m₀, Ld c₀, (fun i m nx => ∃ c, nx = Ld c ∧ P i c ∧ ∀ z, (x :: stored).contains z = false → m z = M c z), rfl, W, ?_, ?_, ?_, ⟨⟨_, Heap.get?_push_size _ rfl, rfl, rfl⟩, hls.at fun o e => Heap.get?_push_of_some _ e⟩, F.push _, (fun p hp => ⟨Heap.get?_push_of_some _ (N p hp).1, (N p hp).2⟩), ⟨c₀, rfl, hp, hm0⟩, ?_, ?_⟩
  · intro hm
    rcases List.mem_cons.mp hm with e | hm
    · exact absurd F.ns.lt (e ▸ Nat.lt_irrefl _)
    · exact (N _ (hl _ _ hp)).2.1 ((List.mem_singleton.mp hm).symm)
  · intro b hb
    rw [List.mem_singleton.mp hb]
    exact next_is_new F
  · intro p hp hI
    exact absurd (Heap.lt_size (N p hp).1) ((List.mem_singleton.mp hI) ▸ Nat.lt_irrefl _)
  · rintro i v m₁ news₁ s₁ own ⟨hh', tk', rfl⟩ hin hP ⟨c, rfl, hpc, hm⟩ hoff hown hget hfp hst F₁ N₁
    have hI0 : h₀.get? s.heap.objs.size = none := next_is_new F
    obtain ⟨⟨oi, hoi, _⟩, _⟩ := hst
    have hmI : (s.heap.objs.size, oi) ∈ own := hfp _ (.head _) hI0 oi hoi
    have hneI : ∀ p ∈ Ld c, p.1 ≠ s.heap.objs.size := fun p hp e => hoff p hp (by rw [e]; exact List.mem_singleton.mpr rfl)
    have hv : vs[i]? = some v := by simpa using hP
    have N₂ : News h₀ env.locals hh' ((s.heap.objs.size, oi) :: Ld c) := fun p hp => by
      rcases List.mem_cons.mp hp with rfl | hp
      · exact N₁ _ (List.mem_append_left _ hmI)
      · exact N₁ _ (List.mem_append_right _ hp)
    refine wpAny_mono (turn i v _ oi c m₁ hh' tk' hv hpc hneI (fr_turn hm F₁) N₂) (fun f s₂ p => ?_) fun _ _ e => e
    have fin : FEndM h₀ env.locals s.heap.objs.size oi Ld (x :: stored) M (P (i + 1)) { s with heap := hh', toks := tk' } s₂ →
        LoopStepU h₀ env.locals [s.heap.objs.size] own (fun m nx => ∃ c, nx = Ld c ∧ P (i + 1) c ∧ ∀ z, (x :: stored).contains z = false → m z = M c z) { s with heap := hh', toks := tk' } .next s₂ := by
      rintro ⟨c', h', tk, m', news', e, F', N', hI, hn, hne', hr, hp'⟩
      refine ⟨rfl, h', tk, m', Ld c', e, F', fun p hp => ?_, fun p hp hI => hne' p hp (List.mem_singleton.mp hI), c', rfl, hp', hr⟩
      rcases List.mem_append.mp hp with h | h
      · rcases List.mem_cons.mp (hown p h) with h2 | h2
        · have h3 : hh'.get? p.1 = some p.2 := hget p h
          have h5 : hh'.get? p.1 = some oi := by rw [h2]; exact hoi
          rw [h5] at h3
          have h4 : p = (s.heap.objs.size, oi) := Prod.ext h2 (Option.some.inj h3).symm
          rw [h4]; exact N' _ hI
        · have h1 : p.1 = l := List.mem_singleton.mp h2
          have h3 : hh'.get? p.1 = some p.2 := hget p h
          have hlo : hh'.get? p.1 = some (listOf vs.toArray nn) := by rw [h1]; exact (N₁ _ (List.mem_append_right _ (hl _ _ hpc))).1
          rw [hlo] at h3
          have h4 : p = (l, listOf vs.toArray nn) := Prod.ext h1 (Option.some.inj h3).symm
          rw [h4]; exact N' _ (hn _ (hl _ _ hp'))
      · exact N' p (hn p h)
    cases f with
    | ret v => exact .ret p
    | brk => exact .brk p
    | next => exact .next (fin p)
    | cont => exact .cont (fin p)
  · rintro h' tk m' news' F' N' _ ⟨c, rfl, hpc, hm⟩
    exact done c m' h' tk hpc (fr_stored hm F') N'

theorem for_rangeM {σ : Type} {r : Addr} {a₀ b₀ : Int} {t₀ u₀ v₀ : Tok} {n : Nat} {m₀ : Str → Option Value} (Ld : σ → Led) (stored : List Str) (P : Nat → σ → Prop) (c₀ : σ) (M : σ → Str → Option Value) (hm0 : ∀ z, (x :: stored).contains z = false → m₀ z = M c₀ z)
    (hh : A.handled = none) (hr : IsRange s.heap r a₀ b₀ 1 t₀ u₀ v₀) (hsmall : Builtin.Range.small a₀ b₀ 1 = true) (hn : Builtin.Range.rangeSize a₀ b₀ 1 = (n : Int)) (F : Fr h₀ env.locals s.heap m₀) (N : News h₀ env.locals s.heap (Ld c₀)) (hp : P 0 c₀)
    (turn : ∀ i t I oi c (u : Str → Option Value) h tk, i < n → P i c → (∀ p ∈ Ld c, p.1 ≠ I) → Fr h₀ env.locals h (fun y => if y = x then some (.int (a₀ + (i : Int)) t) else if stored.contains y then u y else M c y) → News h₀ env.locals h ((I, oi) :: Ld c) →
      wpAny (model prog w) A (execs body env) (FPostM h₀ env.locals I oi Ld (x :: stored) M (P (i + 1)) { s with heap := h, toks := tk } Q) E { s with heap := h, toks := tk })
    (done : ∀ c (u : Str → Option Value) h tk, P n c → Fr h₀ env.locals h (fun y => if (x :: stored).contains y then u y else M c y) → News h₀ env.locals h (Ld c) → Q .next { s with heap := h, toks := tk }) :
    wpAny (model prog w) A (pyIter (.ref r)) (fun it s₂ => LoopAtV prog w A h₀ env x body Q E it s₂) E s := by
  refine wpAny_pyIter_range hr hsmall ?_
  have W : Walks prog w A s.heap.objs.size [s.heap.objs.size] [s.heap.objs.size] n (fun i v => i < n ∧ ∃ t, v = .int (a₀ + i * 1) t)
      (fun i h => IsRangeIter h s.heap.objs.size (a₀ + (i : Nat) * 1) ((n : Int) - (i : Nat)) 1) := (Walks.range hh _ a₀ 1 n).bound
  refine ⟨_, _, _, n, _, _, m₀, Ld c₀, (fun i m nx => ∃ c, nx = Ld c ∧ P i c ∧ ∀ z, (x :: stored).contains z = false → m z = M c z), rfl, W, ?_, ?_, ?_, (by show IsRangeIter _ _ _ _ _; rw [hn]; simpa using Heap.get?_push_size _ rfl), F.push _, (fun p hp => ⟨Heap.get?_push_of_some _ (N p hp).1, (N p hp).2⟩), ⟨c₀, rfl, hp, hm0⟩, ?_, ?_⟩
  · intro hm
    exact absurd F.ns.lt ((List.mem_singleton.mp hm) ▸ Nat.lt_irrefl _)
  · intro b hb
    rw [List.mem_singleton.mp hb]
    exact next_is_new F
  · intro p hp hI
    exact absurd (Heap.lt_size (N p hp).1) ((List.mem_singleton.mp hI) ▸ Nat.lt_irrefl _)
  · rintro i v m₁ news₁ s₁ own ⟨hh', tk', rfl⟩ hin hP ⟨c, rfl, hpc, hm⟩ hoff hown hget hfp hst F₁ N₁
    have hI0 : h₀.get? s.heap.objs.size = none := next_is_new F
    obtain ⟨oi, hoi⟩ : ∃ oi, hh'.get? s.heap.objs.size = some oi := ⟨_, hst⟩
    have hmI : (s.heap.objs.size, oi) ∈ own := hfp _ (.head _) hI0 oi hoi
    have hneI : ∀ p ∈ Ld c, p.1 ≠ s.heap.objs.size := fun p hp e => hoff p hp (by rw [e]; exact List.mem_singleton.mpr rfl)
    obtain ⟨_, t, rfl⟩ := hP
    have e1 : a₀ + (i : Int) * 1 = a₀ + (i : Int) := by lia
    rw [e1] at F₁
    have N₂ : News h₀ env.locals hh' ((s.heap.objs.size, oi) :: Ld c) := fun p hp => by
      rcases List.mem_cons.mp hp with rfl | hp
      · exact N₁ _ (List.mem_append_left _ hmI)
      · exact N₁ _ (List.mem_append_right _ hp)
    refine wpAny_mono (turn i t _ oi c m₁ hh' tk' hin hpc hneI (fr_turn hm F₁) N₂) (fun f s₂ p => ?_) fun _ _ e => e
    have fin : FEndM h₀ env.locals s.heap.objs.size oi Ld (x :: stored) M (P (i + 1)) { s with heap := hh', toks := tk' } s₂ →
        LoopStepU h₀ env.locals [s.heap.objs.size] own (fun m nx => ∃ c, nx = Ld c ∧ P (i + 1) c ∧ ∀ z, (x :: stored).contains z = false → m z = M c z) { s with heap := hh', toks := tk' } .next s₂ := by
      rintro ⟨c', h', tk, m', news', e, F', N', hI, hn, hne', hr, hp'⟩
      refine ⟨rfl, h', tk, m', Ld c', e, F', fun p hp => ?_, fun p hp hI => hne' p hp (List.mem_singleton.mp hI), c', rfl, hp', hr⟩
      rcases List.mem_append.mp hp with h | h
      · have h2 : p.1 = s.heap.objs.size := List.mem_singleton.mp (hown p h)
        have h3 : hh'.get? p.1 = some p.2 := hget p h
        have h5 : hh'.get? p.1 = some oi := by rw [h2]; exact hoi
        rw [h5] at h3
        have h4 : p = (s.heap.objs.size, oi) := Prod.ext h2 (Option.some.inj h3).symm
        rw [h4]; exact N' _ hI
      · exact N' p (hn p h)
    cases f with
    | ret v => exact .ret p
    | brk => exact .brk p
    | next => exact .next (fin p)
    | cont => exact .cont (fin p)
  · rintro h' tk m' news' F' N' _ ⟨c, rfl, hpc, hm⟩
    exact done c m' h' tk hpc (fr_stored hm F') N'
end
end
section
open PySem PySem.W PyProof.Rows PySem.Calls PySem.Spec PyProof.V
/-- the frame's map: some names told by the state -/
abbrev mK {σ : Type} (Kn : List Str) (Kv : σ → Str → Option Value) (m₀ : Str → Option Value) (c : σ) : Str → Option Value := fun y => if Kn.contains y then Kv c y else m₀ y
theorem mK0 {σ : Type} {Kn : List Str} {Kv : σ → Str → Option Value} {m₀ : Str → Option Value} {c₀ : σ} (hk : ∀ z ∈ Kn, m₀ z = Kv c₀ z) (z : Str) : m₀ z = mK Kn Kv m₀ c₀ z := by
  unfold mK
  by_cases h : Kn.contains z = true
  · rw [if_pos h]; exact hk z (List.contains_iff_mem.mp h)
  · rw [if_neg h]
section
variable {prog : Program} {w : World} {A : Around} {E : Value → Shared → Prop} {Q : Flow → Shared → Prop} {s : Shared} {env : Env} {h₀ : Heap} {x : Str} {body : List Stmt}
theorem for_listK {σ : Type} {l : Addr} {vs : List Value} {nn : Nat} {m₀ : Str → Option Value} (Ld : σ → Led) (stored Kn : List Str) (Kv : σ → Str → Option Value) (P : Nat → σ → Prop) (c₀ : σ)
    (hh : A.handled = none) (hl : ∀ i c, P i c → (l, listOf vs.toArray nn) ∈ Ld c) (F : Fr h₀ env.locals s.heap m₀) (N : News h₀ env.locals s.heap (Ld c₀)) (hp : P 0 c₀) (hk0 : ∀ z ∈ Kn, m₀ z = Kv c₀ z)
    (turn : ∀ i v I oi c (u : Str → Option Value) h tk, vs[i]? = some v → P i c → (∀ p ∈ Ld c, p.1 ≠ I) → Fr h₀ env.locals h (fun y => if y = x then some v else if stored.contains y then u y else if Kn.contains y then Kv c y else m₀ y) → News h₀ env.locals h ((I, oi) :: Ld c) →
      wpAny (model prog w) A (execs body env) (FPostM h₀ env.locals I oi Ld (x :: stored) (mK Kn Kv m₀) (P (i + 1)) { s with heap := h, toks := tk } Q) E { s with heap := h, toks := tk })
    (done : ∀ c (u : Str → Option Value) h tk, P vs.length c → Fr h₀ env.locals h (fun y => if (x :: stored).contains y then u y else if Kn.contains y then Kv c y else m₀ y) → News h₀ env.locals h (Ld c) → Q .next { s with heap := h, toks := tk }) :
    wpAny (model prog w) A (pyIter (.ref l)) (fun it s₂ => LoopAtV prog w A h₀ env x body Q E it s₂) E s :=
  for_listM Ld stored P c₀ (mK Kn Kv m₀) (fun z _ => mK0 hk0 z) hh hl F N hp turn done
theorem for_rangeK {σ : Type} {r : Addr} {a₀ b₀ : Int} {t₀ u₀ v₀ : Tok} {n : Nat} {m₀ : Str → Option Value} (Ld : σ → Led) (stored Kn : List Str) (Kv : σ → Str → Option Value) (P : Nat → σ → Prop) (c₀ : σ)
    (hh : A.handled = none) (hr : IsRange s.heap r a₀ b₀ 1 t₀ u₀ v₀) (hsmall : Builtin.Range.small a₀ b₀ 1 = true) (hn : Builtin.Range.rangeSize a₀ b₀ 1 = (n : Int)) (F : Fr h₀ env.locals s.heap m₀) (N : News h₀ env.locals s.heap (Ld c₀)) (hp : P 0 c₀) (hk0 : ∀ z ∈ Kn, m₀ z = Kv c₀ z)
    (turn : ∀ i t I oi c (u : Str → Option Value) h tk, i < n → P i c → (∀ p ∈ Ld c, p.1 ≠ I) → Fr h₀ env.locals h (fun y => if y = x then some (.int (a₀ + (i : Int)) t) else if stored.contains y then u y else if Kn.contains y then Kv c y else m₀ y) → News h₀ env.locals h ((I, oi) :: Ld c) →
      wpAny (model prog w) A (execs body env) (FPostM h₀ env.locals I oi Ld (x :: stored) (mK Kn Kv m₀) (P (i + 1)) { s with heap := h, toks := tk } Q) E { s with heap := h, toks := tk })
    (done : ∀ c (u : Str → Option Value) h tk, P n c → Fr h₀ env.locals h (fun y => if (x :: stored).contains y then u y else if Kn.contains y then Kv c y else m₀ y) → News h₀ env.locals h (Ld c) → Q .next { s with heap := h, toks := tk }) :
    wpAny (model prog w) A (pyIter (.ref r)) (fun it s₂ => LoopAtV prog w A h₀ env x body Q E it s₂) E s :=
  for_rangeM Ld stored P c₀ (mK Kn Kv m₀) (fun z _ => mK0 hk0 z) hh hr hsmall hn F N hp turn done
end
theorem upd_upd {β : Type} (f : Int → β) (n : Int) (a b : β) : upd (upd f n a) n b = upd f n b := funext fun m => by unfold upd; split <;> rfl
end
section
open PySem PySem.W PyProof.Rows PySem.Calls PySem.Spec PyProof.V
def newWin (w : World) (n so pa le to wi hi b8 b9 b10 b11 b13 : Int) (c e l : Addr) (k0 k1 k2 k3 k4 k5 k6 k7 k8 k9 k10 k11 k12 k13 k14 k15 t0 t1 t2 t4 t5 t6 t7 t8 t9 t10 t11 t13 : Tok) : List DictEntry :=
  [⟨PyData.keyHash w.params (Str.ofString "number"), .str (Str.ofString "number") k0, .int n t0⟩,
   ⟨PyData.keyHash w.params (Str.ofString "sort"), .str (Str.ofString "sort") k1, .int so t1⟩,
   ⟨PyData.keyHash w.params (Str.ofString "parent"), .str (Str.ofString "parent") k2, .int pa t2⟩,
   ⟨PyData.keyHash w.params (Str.ofString "children"), .str (Str.ofString "children") k3, .ref c⟩,
   ⟨PyData.keyHash w.params (Str.ofString "left"), .str (Str.ofString "left") k4, .int le t4⟩,
   ⟨PyData.keyHash w.params (Str.ofString "top"), .str (Str.ofString "top") k5, .int to t5⟩,
   ⟨PyData.keyHash w.params (Str.ofString "width"), .str (Str.ofString "width") k6, .int wi t6⟩,
   ⟨PyData.keyHash w.params (Str.ofString "height"), .str (Str.ofString "height") k7, .int hi t7⟩,
   ⟨PyData.keyHash w.params (Str.ofString "buffer"), .str (Str.ofString "buffer") k8, .int b8 t8⟩,
   ⟨PyData.keyHash w.params (Str.ofString "start"), .str (Str.ofString "start") k9, .int b9 t9⟩,
   ⟨PyData.keyHash w.params (Str.ofString "point"), .str (Str.ofString "point") k10, .int b10 t10⟩,
   ⟨PyData.keyHash w.params (Str.ofString "hscroll"), .str (Str.ofString "hscroll") k11, .int b11 t11⟩,
   ⟨PyData.keyHash w.params (Str.ofString "is_dedicated"), .str (Str.ofString "is_dedicated") k12, .bool false⟩,
   ⟨PyData.keyHash w.params (Str.ofString "use_time"), .str (Str.ofString "use_time") k13, .int b13 t13⟩,
   ⟨PyData.keyHash w.params (Str.ofString "earlier"), .str (Str.ofString "earlier") k14, .ref e⟩,
   ⟨PyData.keyHash w.params (Str.ofString "later"), .str (Str.ofString "later") k15, .ref l⟩]
theorem newWin_is (w : World) (n so pa le to wi hi b8 b9 b10 b11 b13 : Int) (c e l : Addr) (k0 k1 k2 k3 k4 k5 k6 k7 k8 k9 k10 k11 k12 k13 k14 k15 t0 t1 t2 t4 t5 t6 t7 t8 t9 t10 t11 t13 : Tok) (ks : List Int) (z : Nat) :
    ∃ j : Jk, j.e = e ∧ j.n = z ∧ winD w.params n ⟨c, so, pa, le, to, wi, hi, ks⟩ j = newWin w n so pa le to wi hi b8 b9 b10 b11 b13 c e l k0 k1 k2 k3 k4 k5 k6 k7 k8 k9 k10 k11 k12 k13 k14 k15 t0 t1 t2 t4 t5 t6 t7 t8 t9 t10 t11 t13 :=
  ⟨⟨fun q => match q with | 0 => k0 | 1 => k1 | 2 => k2 | 3 => k3 | 4 => k4 | 5 => k5 | 6 => k6 | 7 => k7 | 8 => k8 | 9 => k9 | 10 => k10 | 11 => k11 | 12 => k12 | 13 => k13 | 14 => k14 | _ => k15, fun q => match q with | 0 => t0 | 1 => t1 | 2 => t2 | 4 => t4 | 5 => t5 | 6 => t6 | 7 => t7 | 8 => t8 | 9 => t9 | 10 => t10 | 11 => t11 | _ => t13, fun q => match q with | 8 => b8 | 9 => b9 | 10 => b10 | 11 => b11 | _ => b13, e, l, z⟩, rfl, rfl, rfl⟩
section
variable {w : World} {A : Around} {E : Value → Shared → Prop} {s : Shared} {h₀ : Heap} {L : Addr} {m : Str → Option Value} {all l0 : Led} {S : TS} {n : Int} {t : Tok}
theorem wr_add {so pa le to wi hi b8 b9 b10 b11 b13 : Int} {c e l x d : Addr} {k0 k1 k2 k3 k4 k5 k6 k7 k8 k9 k10 k11 k12 k13 k14 k15 t0 t1 t2 t4 t5 t6 t7 t8 t9 t10 t11 t13 : Tok} {z zc ze : Nat} {Q : Unit → Shared → Prop} (F : Fr h₀ L s.heap m) (N : News h₀ L s.heap all) (hT : TreeIn w l0 S) (hs : ∀ p ∈ l0, p ∈ all) (hn : n ∉ S.dom) (hsz : S.dom.length < 1000)
    (fx : ∀ p ∈ l0, p.1 ≠ x) (fd : ∀ p ∈ l0, p.1 ≠ d) (fc : ∀ p ∈ l0, p.1 ≠ c) (fe : ∀ p ∈ l0, p.1 ≠ e) (n1 : x ≠ d) (n2 : x ≠ c) (n3 : x ≠ e) (n4 : d ≠ c) (n5 : d ≠ e) (n6 : c ≠ e)
    (hx : (x, instObj 93 d) ∈ all) (hd : (d, dictOf (newWin w n so pa le to wi hi b8 b9 b10 b11 b13 c e l k0 k1 k2 k3 k4 k5 k6 k7 k8 k9 k10 k11 k12 k13 k14 k15 t0 t1 t2 t4 t5 t6 t7 t8 t9 t10 t11 t13) z) ∈ all) (hc : (c, listOf #[] zc) ∈ all) (he : (e, listOf #[] ze) ∈ all)
    (h : ∀ h' news', Fr h₀ L h' m → News h₀ L h' news' → TreeIn w news' { S with dom := n :: S.dom, A := upd S.A n ⟨x, d⟩, W := upd S.W n ⟨c, so, pa, le, to, wi, hi, []⟩ } → Q () { s with heap := h', toks := s.toks + 1 }) :
    wpAny (model PySem.Challenge.rw_np0059_01.row.prog w) A (setItem (.ref S.w) (.int n t) (.ref x)) Q E s := by
  obtain ⟨tag, H⟩ := hT
  obtain ⟨wo, kvs, hm, hdi, hl, hk⟩ := H.tw
  have hz := H.sz
  obtain ⟨j, rfl, rfl, hj⟩ := newWin_is w n so pa le to wi hi b8 b9 b10 b11 b13 c e l k0 k1 k2 k3 k4 k5 k6 k7 k8 k9 k10 k11 k12 k13 k14 k15 t0 t1 t2 t4 t5 t6 t7 t8 t9 t10 t11 t13 [] z
  rw [← hj] at hd
  refine kda_set (knd := ik w) F (news_turn N (hs _ hm)) updF_turn hdi (intKind_is _ _ _ _) (by rw [sizeLine_eq]; lia) fun h' o' F' N' hd' => h h' _ F' N' ⟨_, H.add hn x d ⟨c, so, pa, le, to, wi, hi, []⟩ j o' kvs fx fd fc fe n1 n2 n3 n4 n5 n6 (fun p hp hne => mem_turn (hs p hp) hne) (.head _) hl hk hd' (mem_turn hx (fx _ hm).symm) (mem_turn hd (fd _ hm).symm) (vs := []) (mem_turn hc (fc _ hm).symm) .nil ⟨_, mem_turn he (fe _ hm).symm⟩ hsz⟩
end
end
section
open PySem PySem.W PyProof.Rows PySem.Calls PySem.Spec PyProof.V
theorem TreeTag.without {w : World} {l : Led} {S : TS} {tag : Addr → Nat × Int} (H : TreeTag w l S tag) {D : Addr} (ht : (tag D).1 = 7) : TreeTag w (off D l) { S with ex := off D S.ex } tag := by
  have K : ∀ {p : Addr × Obj}, p ∈ l → p.1 ≠ D → p ∈ off D l := fun h hn => mem_off h hn
  exact ⟨K H.tx (tag_ne1 H.g0.1 ht (by simp)), let ⟨j, h⟩ := H.td; ⟨j, K h (tag_ne1 H.g0.2.1 ht (by simp))⟩, let ⟨o, k, h, r⟩ := H.tw; ⟨o, k, K h (tag_ne1 H.g0.2.2 ht (by simp)), r⟩, H.lo,
    fun m h => K (H.wx m h) (tag_ne1 (H.gx m h).1 ht (by simp)), fun m h => let ⟨j', a, ⟨k, b⟩, c⟩ := H.wd m h; ⟨j', K a (tag_ne1 (H.gx m h).2.1 ht (by simp)), ⟨k, K b (tag_ne1 c ht (by simp))⟩, c⟩,
    fun m h => let ⟨vs, k, a, b⟩ := H.wc m h; ⟨vs, k, K a (tag_ne1 (H.gx m h).2.2 ht (by simp)), b⟩, fun p h => K (H.ex p (off_sub _ h)) (off_ne p h), H.g0, H.gx, fun p h => H.ge p (off_sub _ h), H.sz⟩
theorem TreeIn.without {w : World} {l : Led} {S : TS} (H : TreeIn w l S) {D : Addr} {o : Obj} (hm : (D, o) ∈ S.ex) : TreeIn w (off D l) { S with ex := off D S.ex } := by
  obtain ⟨tag, H⟩ := H
  exact ⟨tag, H.without (H.ge _ hm)⟩
/-- a new earlier list -/
theorem TreeTag.setE {w : World} {l : Led} {S : TS} {tag : Addr → Nat × Int} (H : TreeTag w l S tag) {n : Int} (hn : n ∈ S.dom) {e : Addr} {k : Nat} (hm : (e, listOf #[] k) ∈ S.ex) (j : Jk) (hje : j.e = e) :
    TreeTag w (((S.A n).d, dictOf (winD w.params n (S.W n) j) j.n) :: off (S.A n).d l) { S with ex := off e S.ex } (setTag tag e (6, n)) := by
  obtain ⟨g1, g2, g3⟩ := H.gx n hn
  have hc7 : (tag e).1 = 7 := H.ge _ hm
  have hml := H.ex _ hm
  have K : ∀ {p : Addr × Obj}, p ∈ l → p.1 ≠ (S.A n).d → p ∈ ((S.A n).d, dictOf (winD w.params n (S.W n) j) j.n) :: off (S.A n).d l := fun h hn => mem_turn h hn
  have ts : ∀ {a : Addr} {x : Nat × Int}, tag a = x → x.1 ≠ 7 → setTag tag e (6, n) a = x := fun {a x} h h7 => by
    rw [setTag_ne _ _ (tag_ne1 h hc7 h7)]; exact h
  refine ⟨K H.tx (tag_ne H.g0.1 g2 (by simp)), let ⟨j, h⟩ := H.td; ⟨j, K h (tag_ne H.g0.2.1 g2 (by simp))⟩, let ⟨o, k, h, r⟩ := H.tw; ⟨o, k, K h (tag_ne H.g0.2.2 g2 (by simp)), r⟩, H.lo,
    fun m h => K (H.wx m h) (tag_ne (H.gx m h).1 g2 (by simp)), fun m h => ?_, fun m h => let ⟨vs, k, a, b⟩ := H.wc m h; ⟨vs, k, K a (tag_ne (H.gx m h).2.2 g2 (by simp)), b⟩, fun p h => K (H.ex p (off_sub _ h)) (tag_ne1 g2 (H.ge p (off_sub _ h)) (by simp)).symm,
    ⟨ts H.g0.1 (by simp), ts H.g0.2.1 (by simp), ts H.g0.2.2 (by simp)⟩, fun m h => ⟨ts (H.gx m h).1 (by simp), ts (H.gx m h).2.1 (by simp), ts (H.gx m h).2.2 (by simp)⟩,
    fun p h => by rw [setTag_ne _ _ (off_ne p h)]; exact H.ge p (off_sub _ h), H.sz⟩
  by_cases q : m = n
  · subst q
    exact ⟨j, .head _, ⟨k, by rw [hje]; exact K hml (tag_ne1 g2 hc7 (by simp)).symm⟩, by rw [hje]; exact setTag_same _ _ _⟩
  · obtain ⟨j', a, ⟨k, b⟩, c⟩ := H.wd m h
    exact ⟨j', K a (tag_ne (H.gx m h).2.1 g2 (by simp [q])), ⟨k, K b (tag_ne c g2 (by simp))⟩, ts c (by simp)⟩
theorem put_earlier (P : Params) (n : Int) (r : WR) (j : Jk) (tk : Tok) (e : Addr) :
    (putL (Str.ofString "earlier") (PyData.keyHash P (Str.ofString "earlier")) (.str (Str.ofString "earlier") tk) (.ref e) (winD P n r j), putN (Str.ofString "earlier") (winD P n r j) j.n) = (winD P n r { j with e := e }, ({ j with e := e } : Jk).n) := by kernel_rfl
section
variable {w : World} {A : Around} {E : Value → Shared → Prop} {s : Shared} {h₀ : Heap} {L : Addr} {m : Str → Option Value} {news : Led} {S S0 : TS} {n : Int} {t : Tok}
theorem wr_earlier (F : Fr h₀ L s.heap m) (X : (Mine.hd.heap_1 w.params).In h₀) (N : News h₀ L s.heap news) (hT : TreeIn w news S) (hn : n ∈ S.dom) (hA : S.A n = S0.A n) {e : Addr} {k : Nat} (hm : (e, listOf #[] k) ∈ S.ex) {Q : Unit → Shared → Prop}
    (h : ∀ h' news', Fr h₀ L h' m → News h₀ L h' news' → TreeIn w news' { S with ex := off e S.ex } → Q () { s with heap := h', toks := s.toks + 2 }) :
    wpAny (model PySem.Challenge.rw_np0059_01.row.prog w) A (setAttr (.ref (S0.A n).x) (Str.ofString "earlier") (.ref e)) Q E s := by
  revert X; k_fill; intro X
  obtain ⟨tag, H⟩ := hT
  obtain ⟨j, h1, he, hg⟩ := H.wd n hn
  have h0 := H.wx n hn
  rw [← hA]
  k_dflt (refine' set_dict ?k1 ?k2 (news_turn N h1) ?k4 ?k5 ?k6 ?k7 ?k8 ?k9 ?k10 ?k11 upd_turn ?k13 ?_; (case k1 => k_asm); (case k2 => k_asm); (case k4 => exact InstAt.of_news N h0 h1); (case k5 => exact rfl); (case k6 => k_is); (case k7 => k_is); (case k8 => k_is); (case k9 => k_is); (case k10 => k_get); (case k11 => exact put_earlier w.params n (S.W n) j _ e); (case k13 => exact Nat.le_of_ble_eq_true rfl))
  intro h' F' N'
  exact h h' _ F' N' ⟨_, H.setE hn hm { j with e := e } rfl⟩
theorem wr_kid_set {k x : Int} {u : Tok} {Q : Unit → Shared → Prop} (F : Fr h₀ L s.heap m) (N : News h₀ L s.heap news) (hT : TreeIn w news S) (hn : n ∈ S.dom) (h0 : 0 ≤ k) (h1 : k < (S.W n).kids.length) (hz : (S.W n).kids.length ≤ 1000)
    (h : ∀ h' news', Fr h₀ L h' m → News h₀ L h' news' → TreeIn w news' { S with W := upd S.W n { S.W n with kids := (S.W n).kids.set k.toNat x } } → Q () { s with heap := h' }) :
    wpAny (model PySem.Challenge.rw_np0059_01.row.prog w) A (setItem (.ref (S.W n).c) (.int k t) (.int x u)) Q E s := by
  obtain ⟨tag, H⟩ := hT
  obtain ⟨vs, nk, hm, hi⟩ := H.wc n hn
  exact ksa_set F (news_turn N hm) upd_turn hi h0 h1 (by lia) fun h' F' N' hi' _ _ => h h' _ F' N' ⟨tag, H.setK hn hi'⟩
theorem ints_ins {vs : List Value} {ns : List Int} (h : IntsAre vs ns) (k : Nat) (x : Int) (u : Tok) : IntsAre (vs.take k ++ .int x u :: vs.drop k) (ns.take k ++ x :: ns.drop k) := by
  induction h generalizing k with
  | nil => simpa using (IntsAre.cons x u .nil)
  | cons n t r ih =>
    cases k with
    | zero => exact .cons _ _ (.cons _ _ r)
    | succ k => exact .cons _ _ (ih k)
theorem wr_kid_ins {k x : Int} {u : Tok} {Q : Value → Shared → Prop} (F : Fr h₀ L s.heap m) (N : News h₀ L s.heap news) (hT : TreeIn w news S) (hn : n ∈ S.dom) (h0 : 0 ≤ k) (h1 : k ≤ (S.W n).kids.length) (hz : (S.W n).kids.length ≤ 1000)
    (h : ∀ h' news', Fr h₀ L h' m → News h₀ L h' news' → TreeIn w news' { S with W := upd S.W n { S.W n with kids := (S.W n).kids.take k.toNat ++ x :: (S.W n).kids.drop k.toNat } } → Q .none { s with heap := h' }) :
    wpAny (model PySem.Challenge.rw_np0059_01.row.prog w) A (call (.builtin "list.insert") [.ref (S.W n).c, .int k t, .int x u]) Q E s := by
  obtain ⟨tag, H⟩ := hT
  obtain ⟨vs, nk, hm, hi⟩ := H.wc n hn
  have hl := hi.length
  have e : kl_ins vs k (.int x u) = vs.take k.toNat ++ .int x u :: vs.drop k.toNat := by
    unfold kl_ins
    rw [if_neg (by lia), Nat.min_eq_left (by lia)]
  refine kl_insert F (news_turn N hm) (by unfold Builtin.List.listFitsIndex; simp; lia) (its := vs.toArray) (by simpa using e) upd_turn (by rw [sizeLine_eq]; simp; lia) fun h' F' N' => h h' _ F' N' ⟨tag, H.setK hn (ints_ins hi _ _ _)⟩
end
end
section
open PySem PySem.W PyProof.Rows PySem.Calls PySem.Spec PyProof.V
local macro_rules | `(tactic| k_mem) => `(tactic| k_extra "w k_mem")
local macro_rules | `(tactic| units_room) => `(tactic| k_extra "w units_room")
local macro_rules | `(tactic| k_room) => `(tactic| k_extra "w k_room")
local macro_rules | `(tactic| ktr_room) => `(tactic| k_extra "w ktr_room")
local macro_rules | `(tactic| ktr_units) => `(tactic| k_extra "w ktr_units")
local macro_rules | `(tactic| walk_at "call builtin:list.pop") => `(tactic| k_extra "w call builtin:list.pop")
local macro_rules | `(tactic| walk_at "call builtin:list.extend") => `(tactic| k_extra "w call builtin:list.extend")
local macro_rules | `(tactic| walk_at "setAttr ref") => `(tactic| k_extra "w setAttr ref")
local macro_rules | `(tactic| walk_at "call builtin:list.append") => `(tactic| k_extra "w call builtin:list.append")
local macro_rules | `(tactic| walk_at "execs cons") => `(tactic| k_extra "w execs cons")
local macro_rules | `(tactic| walk_at "SPost") => `(tactic| k_extra "w SPost")
local macro_rules | `(tactic| walk_at "CPost") => `(tactic| k_extra "w CPost")
local macro_rules | `(tactic| walk_at "WPost") => `(tactic| k_extra "w WPost")
local macro_rules | `(tactic| ksw_same) => `(tactic| k_extra "w ksw_same")
local macro_rules | `(tactic| walk_at "FPost") => `(tactic| k_extra "w FPost")
local macro_rules | `(tactic| walk_at "execs nil") => `(tactic| k_extra "w execs nil")
local macro_rules | `(tactic| walk_at "call builtin:len") => `(tactic| k_extra "w call builtin:len")
local macro_rules | `(tactic| walk_at "eval Dict") => `(tactic| k_extra "w eval Dict")
local macro_rules | `(tactic| walk_at "eval Constant int") => `(tactic| k_extra "w eval Constant int")
local macro_rules | `(tactic| walk_at "eval Constant str") => `(tactic| k_extra "w eval Constant str")
local macro_rules | `(tactic| walk_at "binaryOp Add int int") => `(tactic| k_extra "w binaryOp Add int int")
local macro_rules | `(tactic| walk_at "binaryOp Sub int int") => `(tactic| k_extra "w binaryOp Sub int int")
local macro_rules | `(tactic| walk_at "storeName") => `(tactic| k_extra "w storeName")
local macro_rules | `(tactic| walk_at "newTuple") => `(tactic| k_extra "w newTuple")
local macro_rules | `(tactic| ktr_enter) => `(tactic| k_extra "w ktr_enter")
local macro_rules | `(tactic| walk_at "getAttr ref") => `(tactic| k_extra "w getAttr ref")
local macro_rules | `(tactic| walk_at "getMethod ref") => `(tactic| k_extra "w getMethod ref")
local macro_rules | `(tactic| k_all) => `(tactic| k_extra "w k_all")
local macro_rules | `(tactic| walk_at "subscriptTail") => `(tactic| k_extra "w subscriptTail")
local macro_rules | `(tactic| walk_at "getItem ref int") => `(tactic| k_extra "w getItem ref int")
local macro_rules | `(tactic| walk_at "call builtin:dict.get") => `(tactic| k_extra "w call builtin:dict.get")
local macro_rules | `(tactic| ktr_call $x:term $c:term) => `(tactic| (k_dflt (refine CallOk.go $c (by k_extra "zh") (by k_extra "zC") (by k_extra "zh") (by k_extra "zp") (by ktr_room) (by ktr_units) ?_); intro _ _))
local macro_rules | `(tactic| walk_at "exec Raise some none") => `(tactic| k_extra "w exec Raise some none")
local macro_rules | `(tactic| walk_at "call ref") => `(tactic| k_extra "w call ref")
local macro_rules | `(tactic| walk_at "RaiseK") => `(tactic| k_extra "w RaiseK")
local macro_rules | `(tactic| walk_at "And") => `(tactic| k_extra "w And")
local macro_rules | `(tactic| walk_at "leaving ref") => `(tactic| (k_here; k_dflt (first | (refine' leave_firstX ?p ?K ?F ?N ?n ?d ?v ?_; (case F => k_asm); (case N => k_asm); (case p => exact ⟨rfl, rfl⟩); (case K => k_asm); (case n => exact List.forall_mem_cons.mpr ⟨by assumption, by assumption⟩); (case d => rfl); (case v => rfl)) | (refine' leave_onX ?K ?F ?R ?s ?_; (case R => assumption); (case K => k_asm); (case F => k_asm); (case s => assumption))); intro h' R' U'; (try dsimp only at R' U' ⊢)))
local macro_rules | `(tactic| ktr_call 1 $c:term) => `(tactic| (k_dflt (refine RaisesOk.use $c (by k_asm) (by k_asm) (by k_asm) (by k_asm) (by k_asm) (by k_extra "zh") (by k_extra "zp") (by ktr_room) (by ktr_units) ?_)))
local macro_rules | `(tactic| walk_at "getMethod ref") => `(tactic| k_extra "s getMethod")
section
theorem fresh_M1 : True := by
  w_top off
  k_with_none
  k_with "w k_mem" => (with_unfolding_all refine memIn ?_; ktr_member)
  k_with "w units_room" => ktr_units
  k_with "w k_room" => ktr_room
  k_with "zT" => first | assumption | ((refine TreeIn.mono (by assumption) ?_); repeat (first | exact sub_nil | refine sub_tail ?_))
  k_with "zn" => first | assumption | exact .head _ | exact .tail _ (by assumption)
  k_with "zA" => first | k_extra "zx" | exact upd_ne _ _ (by first | assumption | exact Ne.symm (by assumption))
  k_with "zx" => first | with_reducible rfl | assumption
  k_with "zP" => exact ⟨by k_asm, by k_asm, by k_asm, by k_extra "zT", by k_extra "zn", by k_extra "zA"⟩
  k_with "zQ" => exact ⟨by k_asm, by k_asm, by k_asm, by k_extra "zT", by k_extra "zx", by k_extra "zx"⟩
  k_with "zX" => exact ⟨by k_asm, by k_asm, by k_asm, by k_extra "zT", by k_extra "zx"⟩
  k_with "zC" => exact ⟨by k_asm, by k_asm, by k_asm, by k_asm, by k_asm⟩
  k_with "w ktr_room" => first | exact room1 (by assumption) rfl | exact room0 (by assumption) rfl | exact room2 (by assumption) rfl | ((simp +zetaDelta only [depth_under_make, depth_under_kw, depth_in1, depth_deeper, depth_caller, recursionLimit] at *); omega)
  k_with "w ktr_units" => first | exact room0 (by assumption) rfl | exact room1 (by assumption) rfl | (have zcL := cLine_is; (simp +zetaDelta only [units_in1, units_deeper, Around.mark_units, units_caller] at *); omega)
  k_with "zL" => ((try simp only [List.length_reverse, List.length_map, List.length_append, List.length_cons, List.length_nil]); omega)
  k_with "w call builtin:list.pop" => (k_here; k_dflt (refine pop_last (by k_asm) (by k_asm) (by k_upd) (by first | omega | assumption) ?_); intro _ _ _; (try k_sweep))
  k_with "w call builtin:list.extend" => (k_here; (with_reducible show wpAny _ _ (call (Value.builtin _) [Value.ref _, Value.ref _]) _ _ _); k_dflt (refine ext_ints (by k_asm) (by k_asm) (by k_mem) (by k_updF) (by l_ints) (by k_extra "zL") ?_); intro _ _ _ zN; (try dsimp only at zN); (try k_sweep))
  k_with "w setAttr ref" => (k_here; k_dflt (refine set_s (by k_asm) (by k_asm) (by k_asm) (by k_inst) (by rfl) (by k_is) (by k_is) (by k_is) (by k_is) (by k_get) (by k_put) (by k_updF) (by exact Nat.le_of_ble_eq_true rfl) ?_; k_whole); intro _ _ _ _ _; (try k_sweep))
  k_with "w call builtin:list.append" => (k_here; (with_reducible show wpAny _ _ (call (Value.builtin _) [Value.ref _, _]) _ _ _); k_dflt (refine app_any (by k_asm) (by k_asm) (by k_upd) (by first | omega | k_extra "zL") ?_); intro _ _ zN; (try dsimp only at zN); (try k_sweep))
  k_with "w execs cons" => (k_here; first | (refine execs_shut (s := ‹Shared›) ?_; intro _ _ _) | (refine execs_lit ?_; intro _ _ _) | (refine execs_shut0 ?_; intro _ _))
  k_with "w SPost" => first | refine spost_next (by assumption) ?_ | refine spost_ret (by assumption) ?_ | refine spost_cont (by assumption) ?_ | refine spost_brk (by assumption) ?_
  k_with "w CPost" => (refine cpost_of (by assumption) ?_)
  k_with "w WPost" => (dsimp only [WPost])
  k_with "w ksw_same" => (intro zz z3; (simp only [List.contains_cons, List.contains_nil, Bool.or_false, Bool.or_eq_false_iff, beq_eq_false_iff_ne, ne_eq] at z3); first | (simp [z3]; done) | (simp +zetaDelta [z3]; done))
  k_with "w FPost" => (dsimp only [FPost])
  k_with "w execs nil" => with_reducible refine wpAny_execs_nil ?_
  k_with "w call builtin:len" => (k_here; (with_reducible show wpAny _ _ (call (Value.builtin "len") [Value.ref _]) _ _ _); (refine len_ints (by k_asm) (by k_dflt k_mem) (by with_reducible assumption) (by k_extra "zL") ?_); (try simp only [List.length_map]))
  k_with "w eval Dict" => (k_here; k_dflt (refine kdn_str (by rfl) (by k_asm) (by first | k_asm | exact News.nil) (by exact Top.nolimit (by k_asm)) (by rfl) (by rfl) (by exact List.cons_ne_nil _ _) (by exact Nat.le_of_ble_eq_true rfl) ?_); intro zd zh zo zF zN zl zlo zhd; (try k_lt zl))
  k_with "w eval Constant int" => (with_reducible refine const_int_s ?_; intro _)
  k_with "w eval Constant str" => (with_reducible refine const_str_s ?_; intro _)
  k_with "w binaryOp Add int int" => (with_reducible refine add_int_s ?_; intro _)
  k_with "w binaryOp Sub int int" => (with_reducible refine sub_int_s ?_; intro _)
  k_with "w storeName" => (k_here; k_dflt (refine store_s (by k_asm) (by k_asm) ?_ rfl rfl; k_whole); intro _ _ _ _ _; (try k_sweep))
  k_with "w newTuple" => (k_here; kup_bare; k_dflt (refine tuple_s (by k_asm) (by k_asm) ?_ (by kmk_size)); intro _ _ _ _ zl; (try k_lt zl); (try k_sweep))
  k_with "w ktr_enter" => first | (refine enter_s (by k_extra "zC") rfl rfl (by first | assumption | exact rfl) (by k_is) (by k_is) (by ktr_room) (by first | exact BindsTo.of_eq rfl | exact binds_K (by k_in) rfl (by k_is) rfl rfl rfl) (by exact locs rfl) (by rfl) ?_ (by rfl) (by rfl) (by rfl) (by decide); k_whole; intro _ _ _ _ _ _ _ _ _ _ _ _; (try dsimp only); (try k_fold)) | (refine enterC_s (by k_extra "zC") rfl rfl (by first | assumption | exact rfl) (by k_is) (by k_is) (by ktr_room) (by first | exact BindsTo.of_eq rfl | exact binds_K (by k_in) rfl (by k_is) rfl rfl rfl) (by rfl) (by decide +kernel) ?_ (by rfl) (by rfl) (by rfl); k_whole; intro _ _ _ _ _ _ _ _ _ zN zY _ _ _ zl; (try k_lt zl); k_cells zY; (try simp only [List.cons_append, List.nil_append] at zN); (try dsimp only); (try k_fold))
  k_with "w getAttr ref" => (k_here; (with_reducible show wpAny _ _ (getAttr (Value.ref (AD.x (TS.A _ _))) _ _) _ _ _); first | ((with_reducible (first | apply rs_number | apply rs_sort | apply rs_parent | apply rs_left | apply rs_top | apply rs_width | apply rs_height)); (next => k_extra "zP"); intro _ _) | ((with_reducible (apply rs_children)); (next => k_extra "zP"); intro _) | ((with_reducible (first | apply rs_buffer | apply rs_start | apply rs_point | apply rs_hscroll)); (next => k_extra "zP"); intro _ _ _) | ((with_reducible (apply rs_earlier)); (next => k_extra "zP"); intro _ _ _ _))
  k_with "w getAttr ref" => (k_here; (with_reducible show wpAny _ _ (getAttr (Value.ref (TS.x _)) _ _) _ _ _); first | ((with_reducible (apply rs_t_windows)); (next => k_extra "zQ"); intro _) | ((with_reducible (first | apply rs_t_root | apply rs_t_selected | apply rs_t_last | apply rs_t_least_width | apply rs_t_least_height)); (next => k_extra "zQ"); intro _ _) | ((with_reducible (apply rs_t_clock)); (next => k_extra "zQ"); intro _ _ _))
  k_with "w getMethod ref" => (k_here; (with_reducible show wpAny _ _ (getMethod (Value.ref (AD.x (TS.A _ _))) _ _) _ _ _); ((with_reducible (first | apply ms_size | apply ms_set_size | apply ms_place | apply ms_shown | apply ms_show)); (next => k_extra "zP")))
  k_with "w getMethod ref" => (k_here; (with_reducible show wpAny _ _ (getMethod (Value.ref (TS.x _)) _ _) _ _ _); ((with_reducible (first | apply ms_t_window | apply ms_t_leaf | apply ms_t_touch | apply ms_t_fresh | apply ms_t_select | apply ms_t_least_leaf)); (next => k_extra "zQ")))
  k_with "w k_all" => first | assumption | exact all_succ (by assumption) | exact all_succ2 (by assumption)
  k_with "w subscriptTail" => (k_here; (with_reducible apply it_tail); (next => k_asm); (next => k_extra "zT"); rotate_left; (next => with_unfolding_all rfl))
  k_with "w getItem ref int" => (k_here; (with_reducible apply it_get); (next => k_asm); (next => k_extra "zT"); (next => k_extra "zn"))
  k_with "w getMethod ref" => (k_here; (with_reducible apply it_getm); (next => k_asm); (next => k_extra "zT"))
  k_with "w call builtin:dict.get" => (k_here; (with_reducible apply it_get2); (next => k_asm); (next => k_extra "zT"); (next => k_extra "zn"))
  k_with "w setAttr ref" => (k_here; (with_reducible show wpAny _ _ (setAttr (Value.ref (AD.x (TS.A _ _))) _ (Value.int _ _)) _ _ _); ((with_reducible (first | apply ws_parent | apply ws_left | apply ws_top | apply ws_width | apply ws_height | apply ws_buffer | apply ws_start | apply ws_point | apply ws_hscroll | apply ws_use_time)); (next => k_extra "zP"); intro _ _ _ _ _ _; (try k_sweep)))
  k_with "w setAttr ref" => (k_here; (with_reducible show wpAny _ _ (setAttr (Value.ref (TS.x _)) _ (Value.int _ _)) _ _ _); ((with_reducible (first | apply ws_t_last | apply ws_t_clock | apply ws_t_root | apply ws_t_selected)); (next => k_extra "zX"); intro _ _ _ _ _ _; (try k_sweep)))
  k_with "w exec Raise some none" => (first | (exfalso; omega) | (k_here; (with_reducible show wpAny _ _ (exec (Stmt.Raise (some (Expr.Call (Expr.Name (Str.ofString "LispSignal") _) _ _ _)) none _) _) _ _ _); k_dflt (refine raise_K rfl ?_)))
  k_with "w call ref" => (k_here; k_dflt (refine exc_call (by k_asm) (by k_asm) (by k_asm) ?_); intro _ _ _ _ _ _; refine wpAny_call ?_; k_dflt ktr_enter)
  k_with "w setAttr ref" => (k_here; (with_reducible show wpAny _ _ (setAttr (Value.ref _) (Str.ofString "symbol") _) _ _ _); k_dflt (refine exc_store0 (by k_asm) (by k_asm) (by k_asm) (by assumption) (by exact (sig_facts _).2.2.2.1) (by exact lk_exc _ (.inl rfl)) ?_); intro _ _ _ _ _ _ _ _ _)
  k_with "w setAttr ref" => (k_here; (with_reducible show wpAny _ _ (setAttr (Value.ref _) (Str.ofString "data") _) _ _ _); k_dflt (refine exc_store1 (by k_asm) (by k_asm) (by k_asm) (by assumption) (by assumption) (by assumption) (by assumption) (by exact (sig_facts _).2.2.2.2.1) (by exact lk_exc _ (.inr rfl)) ?_ (by exact Within.cons _ _ Within.nil) (by (rw [sizeLine_eq]; decide))); intro _ _ _ _ _ _)
  k_with "w RaiseK" => (k_here; k_dflt (refine raiseK_intro (by k_asm) (by k_asm) (by k_asm) (by k_mem) ?_))
  k_with "w And" => ((with_reducible show Value.none = Value.none ∧ _); refine ⟨rfl, ?_⟩)
  k_with "zh" => first | exact rfl | assumption
  k_with "zp" => first | k_extra "zT" | exact trivial
  trivial
theorem window_ok {w : World} {mean : ExcName → Option Value} {mg mb : Str → Option Value} (S : TS) (tx : Addr) (hx : S.x = tx) (n : Int) (hn : n ∈ S.dom) (t : Tok) :
    CallOk w mean mg mb (.ref 126) [.ref tx, .int n t] 5 100 (fun news => TreeIn w news S) (fun news news' v => news' = news ∧ v = .ref (S.A n).x) := by
  subst hx
  unfold CallOk
  k_fill
  intro dp un gd cn cs a ccd cl outer A₀ base h₀ L m news s Q E B F X N Tp hk hT hd hu hret
  refine wpAny_call ?_
  k_dflt ktr_enter
  k_steps
  all_goals exact hret _ _ _ _ (by assumption) (by assumption) ⟨rfl, rfl⟩

theorem leaf_ok {w : World} {mean : ExcName → Option Value} {mg mb : Str → Option Value} (S : TS) (tx : Addr) (hx : S.x = tx) (n : Int) (hn : n ∈ S.dom) (t : Tok) (hs0 : (S.W n).sort = 0) :
    CallOk w mean mg mb (.ref 133) [.ref tx, .int n t] 10 200 (fun news => TreeIn w news S) (fun news news' v => news' = news ∧ v = .ref (S.A n).x) := by
  subst hx
  unfold CallOk
  k_fill
  intro dp un gd cn cs a ccd cl outer A₀ base h₀ L m news s Q E B F X N Tp hk hT hd hu hret
  refine wpAny_call ?_
  k_dflt ktr_enter
  k_with "exec Raise some none" => (exfalso; omega)
  k_with "call ref" =>
    first
    | (with_reducible show wpAny _ _ (call (Value.ref 126) _) _ _ _)
      ktr_call 0 (window_ok S _ rfl n (by assumption) _)
      intro r' news' h' tk' F' N' P'
      obtain ⟨rfl, rfl⟩ := P'
      (try dsimp only)
      (try simp only [AllLt, and_true] at l9)
      (try simp only [AllLt, and_true] at hl')
  k_steps
  all_goals exact hret _ _ _ _ (by assumption) (by assumption) ⟨rfl, rfl⟩

theorem edges_ok {w : World} {mean : ExcName → Option Value} {mg mb : Str → Option Value} (S : TS) (tx : Addr) (hx : S.x = tx) (n : Int) (hn : n ∈ S.dom) (t : Tok) :
    CallOk w mean mg mb (.ref 296) [.ref tx, .int n t] 10 200 (fun news => TreeIn w news S) (fun news news' v => ∃ a t1 t2 t3 t4, v = .ref a ∧ news' = (a, tupleOf [.int (S.W n).left t1, .int (S.W n).top t2, .int ((S.W n).left + (S.W n).width) t3, .int ((S.W n).top + (S.W n).height) t4]) :: news ∧ AllLt a news) := by
  subst hx
  unfold CallOk
  k_fill
  intro dp un gd cn cs a ccd cl outer A₀ base h₀ L m news s Q E B F X N Tp hk hT hd hu hret
  refine wpAny_call ?_
  k_dflt ktr_enter
  k_with "call ref" =>
    first
    | (with_reducible show wpAny _ _ (call (Value.ref 126) _) _ _ _)
      ktr_call 0 (window_ok S _ rfl n (by assumption) _)
      intro r' news' h' tk' F' N' P'
      obtain ⟨rfl, rfl⟩ := P'
      (try dsimp only)
      (try simp only [AllLt, and_true] at l9)
      (try simp only [AllLt, and_true] at hl')
  k_steps
  exact hret _ _ _ _ (by assumption) (by assumption) ⟨_, _, _, _, _, rfl, rfl, allLt_of (by assumption)⟩

theorem has_divider_ok {w : World} {mean : ExcName → Option Value} {mg mb : Str → Option Value} (S : TS) (tx : Addr) (hx : S.x = tx) (n : Int) (hn : n ∈ S.dom) (t : Tok) (hs0 : (S.W n).sort = 0) (hr : S.root ∈ S.dom) :
    CallOk w mean mg mb (.ref 275) [.ref tx, .int n t] 20 300 (fun news => TreeIn w news S) (fun news news' v => news' = news ∧ v = .bool (decide ((S.W n).left + (S.W n).width < (S.W S.root).width))) := by
  subst hx
  unfold CallOk
  k_fill
  intro dp un gd cn cs a ccd cl outer A₀ base h₀ L m news s Q E B F X N Tp hk hT hd hu hret
  refine wpAny_call ?_
  k_dflt ktr_enter
  k_with "call ref" =>
    first
    | (with_reducible show wpAny _ _ (call (Value.ref 133) _) _ _ _)
      ktr_call 0 (leaf_ok S _ rfl n (by assumption) _ (by assumption))
      intro r' news' h' tk' F' N' P'
      obtain ⟨rfl, rfl⟩ := P'
      (try dsimp only)
      (try simp only [AllLt, and_true] at l9)
      (try simp only [AllLt, and_true] at hl')
  k_steps
  all_goals exact hret _ _ _ _ (by assumption) (by assumption) ⟨rfl, rfl⟩

theorem body_width_ok {w : World} {mean : ExcName → Option Value} {mg mb : Str → Option Value} (S : TS) (tx : Addr) (hx : S.x = tx) (n : Int) (hn : n ∈ S.dom) (t : Tok) (hs0 : (S.W n).sort = 0) (hr : S.root ∈ S.dom) :
    CallOk w mean mg mb (.ref 282) [.ref tx, .int n t] 30 400 (fun news => TreeIn w news S) (fun news news' v => news' = news ∧ ∃ t, v = .int ((S.W n).width - (if (S.W n).left + (S.W n).width < (S.W S.root).width then 1 else 0)) t) := by
  subst hx
  unfold CallOk
  k_fill
  intro dp un gd cn cs a ccd cl outer A₀ base h₀ L m news s Q E B F X N Tp hk hT hd hu hret
  refine wpAny_call ?_
  k_dflt ktr_enter
  k_with "call ref" =>
    first
    | (with_reducible show wpAny _ _ (call (Value.ref 133) _) _ _ _)
      ktr_call 0 (leaf_ok S _ rfl n (by assumption) _ (by assumption))
      intro r' news' h' tk' F' N' P'
      obtain ⟨rfl, rfl⟩ := P'
      (try dsimp only)
      (try simp only [AllLt, and_true] at l9)
      (try simp only [AllLt, and_true] at hl')
    | (with_reducible show wpAny _ _ (call (Value.ref 275) _) _ _ _)
      ktr_call 0 (has_divider_ok S _ rfl n (by assumption) _ (by assumption) (by assumption))
      intro r' news' h' tk' F' N' P'
      obtain ⟨rfl, rfl⟩ := P'
      (try dsimp only)
      (try simp only [AllLt, and_true] at l9)
      (try simp only [AllLt, and_true] at hl')
  k_steps
  all_goals exact hret _ _ _ _ (by assumption) (by assumption) ⟨rfl, ktn_int (by split <;> lia)⟩

theorem body_height_ok {w : World} {mean : ExcName → Option Value} {mg mb : Str → Option Value} (S : TS) (tx : Addr) (hx : S.x = tx) (n : Int) (hn : n ∈ S.dom) (t : Tok) (hs0 : (S.W n).sort = 0) :
    CallOk w mean mg mb (.ref 289) [.ref tx, .int n t] 30 400 (fun news => TreeIn w news S) (fun news news' v => news' = news ∧ ∃ t, v = .int ((S.W n).height - 1) t) := by
  subst hx
  unfold CallOk
  k_fill
  intro dp un gd cn cs a ccd cl outer A₀ base h₀ L m news s Q E B F X N Tp hk hT hd hu hret
  refine wpAny_call ?_
  k_dflt ktr_enter
  k_with "call ref" =>
    first
    | (with_reducible show wpAny _ _ (call (Value.ref 133) _) _ _ _)
      ktr_call 0 (leaf_ok S _ rfl n (by assumption) _ (by assumption))
      intro r' news' h' tk' F' N' P'
      obtain ⟨rfl, rfl⟩ := P'
      (try dsimp only)
      (try simp only [AllLt, and_true] at l9)
      (try simp only [AllLt, and_true] at hl')
  k_steps
  all_goals exact hret _ _ _ _ (by assumption) (by assumption) ⟨rfl, ktn_int rfl⟩
end
section
theorem fresh_M2 : True := by
  w_top off
  k_with_none
  k_with "w k_mem" => (with_unfolding_all refine memIn ?_; ktr_member)
  k_with "w units_room" => ktr_units
  k_with "w k_room" => ktr_room
  k_with "zT" => first | assumption | ((refine TreeIn.mono (by assumption) ?_); repeat (first | exact sub_nil | refine sub_tail ?_))
  k_with "zn" => first | assumption | exact .head _ | exact .tail _ (by assumption)
  k_with "zA" => first | k_extra "zx" | exact upd_ne _ _ (by first | assumption | exact Ne.symm (by assumption))
  k_with "zx" => first | with_reducible rfl | assumption
  k_with "zP" => exact ⟨by k_asm, by k_asm, by k_asm, by k_extra "zT", by k_extra "zn", by k_extra "zA"⟩
  k_with "zQ" => exact ⟨by k_asm, by k_asm, by k_asm, by k_extra "zT", by k_extra "zx", by k_extra "zx"⟩
  k_with "zX" => exact ⟨by k_asm, by k_asm, by k_asm, by k_extra "zT", by k_extra "zx"⟩
  k_with "zC" => exact ⟨by k_asm, by k_asm, by k_asm, by k_asm, by k_asm⟩
  k_with "w ktr_room" => first | exact room1 (by assumption) rfl | exact room0 (by assumption) rfl | exact room2 (by assumption) rfl | ((simp +zetaDelta only [depth_under_make, depth_under_kw, depth_in1, depth_deeper, depth_caller, recursionLimit] at *); omega)
  k_with "w ktr_units" => first | exact room0 (by assumption) rfl | exact room1 (by assumption) rfl | (have zcL := cLine_is; (simp +zetaDelta only [units_in1, units_deeper, Around.mark_units, units_caller] at *); omega)
  k_with "zL" => ((try simp only [List.length_reverse, List.length_map, List.length_append, List.length_cons, List.length_nil]); omega)
  k_with "w call builtin:list.pop" => (k_here; k_dflt (refine pop_last (by k_asm) (by k_asm) (by k_upd) (by first | omega | assumption) ?_); intro _ _ _; (try k_sweep))
  k_with "w call builtin:list.extend" => (k_here; (with_reducible show wpAny _ _ (call (Value.builtin _) [Value.ref _, Value.ref _]) _ _ _); k_dflt (refine ext_ints (by k_asm) (by k_asm) (by k_mem) (by k_updF) (by l_ints) (by k_extra "zL") ?_); intro _ _ _ zN; (try dsimp only at zN); (try k_sweep))
  k_with "w setAttr ref" => (k_here; k_dflt (refine set_s (by k_asm) (by k_asm) (by k_asm) (by k_inst) (by rfl) (by k_is) (by k_is) (by k_is) (by k_is) (by k_get) (by k_put) (by k_updF) (by exact Nat.le_of_ble_eq_true rfl) ?_; k_whole); intro _ _ _ _ _; (try k_sweep))
  k_with "w call builtin:list.append" => (k_here; (with_reducible show wpAny _ _ (call (Value.builtin _) [Value.ref _, _]) _ _ _); k_dflt (refine app_any (by k_asm) (by k_asm) (by k_upd) (by first | omega | k_extra "zL") ?_); intro _ _ zN; (try dsimp only at zN); (try k_sweep))
  k_with "w execs cons" => (k_here; first | (refine execs_shut (s := ‹Shared›) ?_; intro _ _ _) | (refine execs_lit ?_; intro _ _ _) | (refine execs_shut0 ?_; intro _ _))
  k_with "w SPost" => first | refine spost_next (by assumption) ?_ | refine spost_ret (by assumption) ?_ | refine spost_cont (by assumption) ?_ | refine spost_brk (by assumption) ?_
  k_with "w CPost" => (refine cpost_of (by assumption) ?_)
  k_with "w WPost" => (dsimp only [WPost])
  k_with "w ksw_same" => (intro zz z3; (simp only [List.contains_cons, List.contains_nil, Bool.or_false, Bool.or_eq_false_iff, beq_eq_false_iff_ne, ne_eq] at z3); first | (simp [z3]; done) | (simp +zetaDelta [z3]; done))
  k_with "w FPost" => (dsimp only [FPost])
  k_with "w execs nil" => with_reducible refine wpAny_execs_nil ?_
  k_with "w call builtin:len" => (k_here; (with_reducible show wpAny _ _ (call (Value.builtin "len") [Value.ref _]) _ _ _); (refine len_ints (by k_asm) (by k_dflt k_mem) (by with_reducible assumption) (by k_extra "zL") ?_); (try simp only [List.length_map]))
  k_with "w eval Dict" => (k_here; k_dflt (refine kdn_str (by rfl) (by k_asm) (by first | k_asm | exact News.nil) (by exact Top.nolimit (by k_asm)) (by rfl) (by rfl) (by exact List.cons_ne_nil _ _) (by exact Nat.le_of_ble_eq_true rfl) ?_); intro zd zh zo zF zN zl zlo zhd; (try k_lt zl))
  k_with "w eval Constant int" => (with_reducible refine const_int_s ?_; intro _)
  k_with "w eval Constant str" => (with_reducible refine const_str_s ?_; intro _)
  k_with "w binaryOp Add int int" => (with_reducible refine add_int_s ?_; intro _)
  k_with "w binaryOp Sub int int" => (with_reducible refine sub_int_s ?_; intro _)
  k_with "w storeName" => (k_here; k_dflt (refine store_s (by k_asm) (by k_asm) ?_ rfl rfl; k_whole); intro _ _ _ _ _; (try k_sweep))
  k_with "w newTuple" => (k_here; kup_bare; k_dflt (refine tuple_s (by k_asm) (by k_asm) ?_ (by kmk_size)); intro _ _ _ _ zl; (try k_lt zl); (try k_sweep))
  k_with "w ktr_enter" => first | (refine enter_s (by k_extra "zC") rfl rfl (by first | assumption | exact rfl) (by k_is) (by k_is) (by ktr_room) (by first | exact BindsTo.of_eq rfl | exact binds_K (by k_in) rfl (by k_is) rfl rfl rfl) (by exact locs rfl) (by rfl) ?_ (by rfl) (by rfl) (by rfl) (by decide); k_whole; intro _ _ _ _ _ _ _ _ _ _ _ _; (try dsimp only); (try k_fold)) | (refine enterC_s (by k_extra "zC") rfl rfl (by first | assumption | exact rfl) (by k_is) (by k_is) (by ktr_room) (by first | exact BindsTo.of_eq rfl | exact binds_K (by k_in) rfl (by k_is) rfl rfl rfl) (by rfl) (by decide +kernel) ?_ (by rfl) (by rfl) (by rfl); k_whole; intro _ _ _ _ _ _ _ _ _ zN zY _ _ _ zl; (try k_lt zl); k_cells zY; (try simp only [List.cons_append, List.nil_append] at zN); (try dsimp only); (try k_fold))
  k_with "w getAttr ref" => (k_here; (with_reducible show wpAny _ _ (getAttr (Value.ref (AD.x (TS.A _ _))) _ _) _ _ _); first | ((with_reducible (first | apply rs_number | apply rs_sort | apply rs_parent | apply rs_left | apply rs_top | apply rs_width | apply rs_height)); (next => k_extra "zP"); intro _ _) | ((with_reducible (apply rs_children)); (next => k_extra "zP"); intro _) | ((with_reducible (first | apply rs_buffer | apply rs_start | apply rs_point | apply rs_hscroll)); (next => k_extra "zP"); intro _ _ _) | ((with_reducible (apply rs_earlier)); (next => k_extra "zP"); intro _ _ _ _))
  k_with "w getAttr ref" => (k_here; (with_reducible show wpAny _ _ (getAttr (Value.ref (TS.x _)) _ _) _ _ _); first | ((with_reducible (apply rs_t_windows)); (next => k_extra "zQ"); intro _) | ((with_reducible (first | apply rs_t_root | apply rs_t_selected | apply rs_t_last | apply rs_t_least_width | apply rs_t_least_height)); (next => k_extra "zQ"); intro _ _) | ((with_reducible (apply rs_t_clock)); (next => k_extra "zQ"); intro _ _ _))
  k_with "w getMethod ref" => (k_here; (with_reducible show wpAny _ _ (getMethod (Value.ref (AD.x (TS.A _ _))) _ _) _ _ _); ((with_reducible (first | apply ms_size | apply ms_set_size | apply ms_place | apply ms_shown | apply ms_show)); (next => k_extra "zP")))
  k_with "w getMethod ref" => (k_here; (with_reducible show wpAny _ _ (getMethod (Value.ref (TS.x _)) _ _) _ _ _); ((with_reducible (first | apply ms_t_window | apply ms_t_leaf | apply ms_t_touch | apply ms_t_fresh | apply ms_t_select | apply ms_t_least_leaf)); (next => k_extra "zQ")))
  k_with "w k_all" => first | assumption | exact all_succ (by assumption) | exact all_succ2 (by assumption)
  k_with "w subscriptTail" => (k_here; (with_reducible apply it_tail); (next => k_asm); (next => k_extra "zT"); rotate_left; (next => with_unfolding_all rfl))
  k_with "w getItem ref int" => (k_here; (with_reducible apply it_get); (next => k_asm); (next => k_extra "zT"); (next => k_extra "zn"))
  k_with "w getMethod ref" => (k_here; (with_reducible apply it_getm); (next => k_asm); (next => k_extra "zT"))
  k_with "w call builtin:dict.get" => (k_here; (with_reducible apply it_get2); (next => k_asm); (next => k_extra "zT"); (next => k_extra "zn"))
  k_with "w setAttr ref" => (k_here; (with_reducible show wpAny _ _ (setAttr (Value.ref (AD.x (TS.A _ _))) _ (Value.int _ _)) _ _ _); ((with_reducible (first | apply ws_parent | apply ws_left | apply ws_top | apply ws_width | apply ws_height | apply ws_buffer | apply ws_start | apply ws_point | apply ws_hscroll | apply ws_use_time)); (next => k_extra "zP"); intro _ _ _ _ _ _; (try k_sweep)))
  k_with "w setAttr ref" => (k_here; (with_reducible show wpAny _ _ (setAttr (Value.ref (TS.x _)) _ (Value.int _ _)) _ _ _); ((with_reducible (first | apply ws_t_last | apply ws_t_clock | apply ws_t_root | apply ws_t_selected)); (next => k_extra "zX"); intro _ _ _ _ _ _; (try k_sweep)))
  k_with "w exec Raise some none" => (first | (exfalso; omega) | (k_here; (with_reducible show wpAny _ _ (exec (Stmt.Raise (some (Expr.Call (Expr.Name (Str.ofString "LispSignal") _) _ _ _)) none _) _) _ _ _); k_dflt (refine raise_K rfl ?_)))
  k_with "w call ref" => (k_here; k_dflt (refine exc_call (by k_asm) (by k_asm) (by k_asm) ?_); intro _ _ _ _ _ _; refine wpAny_call ?_; k_dflt ktr_enter)
  k_with "w setAttr ref" => (k_here; (with_reducible show wpAny _ _ (setAttr (Value.ref _) (Str.ofString "symbol") _) _ _ _); k_dflt (refine exc_store0 (by k_asm) (by k_asm) (by k_asm) (by assumption) (by exact (sig_facts _).2.2.2.1) (by exact lk_exc _ (.inl rfl)) ?_); intro _ _ _ _ _ _ _ _ _)
  k_with "w setAttr ref" => (k_here; (with_reducible show wpAny _ _ (setAttr (Value.ref _) (Str.ofString "data") _) _ _ _); k_dflt (refine exc_store1 (by k_asm) (by k_asm) (by k_asm) (by assumption) (by assumption) (by assumption) (by assumption) (by exact (sig_facts _).2.2.2.2.1) (by exact lk_exc _ (.inr rfl)) ?_ (by exact Within.cons _ _ Within.nil) (by (rw [sizeLine_eq]; decide))); intro _ _ _ _ _ _)
  k_with "w RaiseK" => (k_here; k_dflt (refine raiseK_intro (by k_asm) (by k_asm) (by k_asm) (by k_mem) ?_))
  k_with "w And" => ((with_reducible show Value.none = Value.none ∧ _); refine ⟨rfl, ?_⟩)
  k_with "zh" => first | exact rfl | assumption
  k_with "zp" => first | k_extra "zT" | exact trivial
  trivial
theorem ints_rev {vs : List Value} {ns : List Int} (h : IntsAre vs ns) : IntsAre vs.reverse ns.reverse := by
  induction h with
  | nil => exact .nil
  | cons n t _ ih => rw [List.reverse_cons, List.reverse_cons]; exact ih.append (.cons _ _ .nil)
structure DS where
  pend : Fo
  done : List Int
  wv : List Value
  wn : Nat
  fv : List Value
  fn : Nat
def DSP (S : TS) (tot : List Int) (c : DS) : Prop :=
  IntsAre c.wv c.pend.nums.reverse ∧ IntsAre c.fv c.done ∧ c.done ++ c.pend.leaves S.W = tot ∧ c.pend.Ok S.W ∧ (∀ q ∈ c.pend.all, q ∈ S.dom) ∧ c.pend.size ≤ 1000

theorem leaves_under_ok {w : World} {mean : ExcName → Option Value} {mg mb : Str → Option Value} (S : TS) (tx : Addr) (hx : S.x = tx) (n : Int) (t : Tok) (k : Fo) (hOk : (Fo.cons n k .nil).Ok S.W) (hin : ∀ q ∈ (Fo.cons n k .nil).all, q ∈ S.dom) (hsz : (Fo.cons n k .nil).size ≤ 1000) :
    CallOk w mean mg mb (.ref 189) [.ref tx, .int n t] 10 600 (fun news => TreeIn w news S) (fun news news' v => ∃ a vs z, v = .ref a ∧ news' = (a, listOf vs.toArray z) :: news ∧ IntsAre vs ((Fo.cons n k .nil).leaves S.W) ∧ AllLt a news) := by
  subst hx
  unfold CallOk
  k_fill
  intro dp un gd cn cs a ccd cl outer A₀ base h₀ L m news s Q E B F X N Tp hk hT hd hu hret
  refine wpAny_call ?_
  k_dflt ktr_enter
  k_with "exec While Compare cons nil" => refine stop ?_
  k_steps
  refine go ?_
  rename Fr _ _ _ _ => lF'
  rename News _ _ _ _ => lN'
  with_unfolding_all refine' while_by (fun c : DS => (_, listOf c.wv.toArray c.wn) :: (_, listOf c.fv.toArray c.fn) ::  news) [Str.ofString "here"] (DSP S ((Fo.cons n k .nil).leaves S.W)) (fun c => c.pend.size) ⟨.cons n k .nil, [], [.int n t], 0, [], 0⟩ lF' lN' ?hp ?turn
  case hp => exact ⟨.cons _ _ .nil, .nil, rfl, hOk, hin, hsz⟩
  clear lF' lN'
  intro c u h' tk' hP F' N'
  refine shut ?_
  intro G9 hG9
  obtain ⟨pend, done, wv, wn, fv, fn⟩ := c
  obtain ⟨h1, h2, h3, h4, h5, h6⟩ := hP
  refine hG9 ?_
  dsimp only at h1 h2 h3 h4 h5 h6 N'
  cases pend with
  | nil =>
    cases h1
    k_steps
    refine hret _ _ _ _ (by assumption) (News.sub (l' := (_, listOf fv.toArray fn) :: news) (by assumption) (sub_tail (sub_tail sub_nil))) ⟨_, fv, fn, rfl, rfl, ?_, by first | assumption | exact allLt_of (by assumption)⟩
    rw [Fo.leaves, List.append_nil] at h3
    rw [← h3]; exact h2
  | cons r' k' s' =>
    have hr' : r' ∈ S.dom := h5 _ (.head _)
    refine shut ?_
    intro G9 hG9
    obtain ⟨vk, nk, hc', hki⟩ := hT.wc hr'
    obtain ⟨us, t', rfl, h1'⟩ := ints_last (by simpa [Fo.nums] using h1)
    refine hG9 ?_
    have e1 := hki.length
    have e2 := h1'.length
    have e3 := Fo.nums_le s'
    have e4 := Fo.nums_le k'
    have e5 := h2.length
    have e6 := congrArg List.length h3
    have e7 := Fo.leaves_le S.W (.cons n k .nil)
    have e8 := congrArg List.length h4.1
    simp only [List.length_map, List.length_reverse, List.length_append, Fo.size] at e1 e2 e5 e6 e7 e8 h6 hsz
    have hul : us.length + 1 ≤ 1000 := by lia
    have hkl : (S.W r').kids.length ≤ 1000 := by lia
    have hvl : vk.length ≤ 1000 := by lia
    have hfl : fv.length ≤ 1000 := by lia
    k_steps
    · have hd0 := ‹decide ((Fo.cons r' k' s').nums.reverse = []) = true›
      exfalso
      simp [Fo.nums] at hd0
    · have hs0 := ‹(S.W r').sort = 0›
      refine while_end ⟨s', done ++ [r'], us, _, fv ++ [.int r' _], _⟩ (by assumption) (by assumption) (by kst_in) (by ksw_same) ⟨h1', ?_, ?_, h4.2.2.2, fun q hq => h5 q ?_, ?_⟩ ?_
      · exact h2.append (.cons _ _ .nil)
      · rw [← h3]; simp [Fo.leaves, hs0]
      · exact .tail _ (List.mem_append.mpr (.inr hq))
      · dsimp only; lia
      · simp only [Fo.size]; lia
    · have hs0 := ‹(S.W r').sort ≠ 0›
      refine while_end ⟨k'.app s', done, us ++ _, _, fv, _⟩ (by assumption) (by assumption) (by kst_in) (by ksw_same) ⟨?_, h2, ?_, Fo.ok_app h4.2.2.1 h4.2.2.2, fun q hq => h5 q ?_, ?_⟩ ?_
      · have hI := ‹IntsAre _ (S.W r').kids.reverse›
        have := h1'.append hI
        rw [h4.1] at this
        simpa [Fo.nums_app] using this
      · rw [← h3]; simp [Fo.leaves, hs0, Fo.leaves_app]
      · rw [Fo.all_app] at hq; exact .tail _ hq
      · dsimp only; rw [Fo.size_app]; lia
      · simp only [Fo.size, Fo.size_app]; lia

theorem leaves_ok {w : World} {mean : ExcName → Option Value} {mg mb : Str → Option Value} (S : TS) (tx : Addr) (hx : S.x = tx) (lv : List Int) (hL : Lv S lv) :
    CallOk w mean mg mb (.ref 196) [.ref tx] 20 700 (fun news => TreeIn w news S) (fun news news' v => ∃ a vs z, v = .ref a ∧ news' = (a, listOf vs.toArray z) :: news ∧ IntsAre vs (lv) ∧ AllLt a news) := by
  refine shut ?_
  intro G9 hG9
  subst hx
  obtain ⟨r, k, h1, h2, h3, rfl, rfl⟩ := hL
  refine hG9 ?_
  unfold CallOk
  k_fill
  intro dp un gd cn cs a ccd cl outer A₀ base h₀ L m news s Q E B F X N Tp hk hT hd hu hret
  refine wpAny_call ?_
  k_dflt ktr_enter
  k_with "call ref" =>
    first
    | (with_reducible show wpAny _ _ (call (Value.ref 189) _) _ _ _)
      ktr_call 0 (leaves_under_ok S _ rfl _ _ k h1 h2 h3)
      intro r' news' h' tk' F' N' P'
      obtain ⟨a', vs', n', rfl, rfl, hi', hl'⟩ := P'
      (try dsimp only)
      (try simp only [AllLt, and_true] at l9)
      (try simp only [AllLt, and_true] at hl')
  k_steps
  exact hret _ _ _ _ (by assumption) (by assumption) ⟨a', vs', n', rfl, rfl, hi', hl'⟩

theorem window_at_ok {w : World} {mean : ExcName → Option Value} {mg mb : Str → Option Value} (S : TS) (tx : Addr) (hx : S.x = tx) (lv : List Int) (hL : Lv S lv) (col row : Int) (tc tr : Tok) :
    CallOk w mean mg mb (.ref 245) [.ref tx, .int col tc, .int row tr] 30 800 (fun news => TreeIn w news S) (fun news news' v => news' = news ∧ ∃ t, v = .int (cellOf S.W lv col row) t) := by
  subst hx
  unfold CallOk
  k_fill
  intro dp un gd cn cs a ccd cl outer A₀ base h₀ L m news s Q E B F X N Tp hk hT hd hu hret
  refine wpAny_call ?_
  k_dflt ktr_enter
  k_with "call ref" =>
    first
    | (with_reducible show wpAny _ _ (call (Value.ref 196) _) _ _ _)
      ktr_call 0 (leaves_ok S _ rfl lv hL)
      intro r' news' h' tk' F' N' P'
      obtain ⟨a', vs', n', rfl, rfl, hi', hl'⟩ := P'
      (try dsimp only)
      (try simp only [AllLt, and_true] at l9)
      (try simp only [AllLt, and_true] at hl')
  k_with "pyIter ref" => refine stop ?_
  k_with "exec For Name Call cons nil" =>
    k_here
    rename Fr _ _ _ _ => lF'
    with_unfolding_all refine' For_invVF lF' ?k1 ?k2 ?_
    case k1 => exact rfl
    case k2 => exact rfl
  k_steps
  refine go ?_
  rename Fr _ _ _ _ => lF'
  rename News _ _ _ _ => lN'
  with_unfolding_all refine' for_list (σ := Unit) (fun _ => (a', listOf vs'.toArray n') :: news) [Str.ofString "here"] (fun i _ => lv.find? (covers S.W col row) = (lv.drop i).find? (covers S.W col row)) () (by rfl) (fun _ _ _ => .head _) lF' lN' rfl ?turn ?done
  case done =>
    clear lF' lN'
    intro c u h' tk' hP F' N'
    k_steps
    refine hret _ _ _ _ (by assumption) (News.sub (l' := news) (by assumption) (sub_tail sub_nil)) ⟨rfl, ktn_int ?_⟩
    have hl := hi'.length
    rw [hl, List.drop_length] at hP
    simp [cellOf, hP]
  case turn =>
    clear lF' lN'
    intro i v I oi c u h' tk' hv hP hI F' N'
    refine shut ?_
    intro G9 hG9
    obtain ⟨r, tv, hr, rfl⟩ := ints_at hi' hv
    refine hG9 ?_
    have hr' : r ∈ S.dom := hL.dom r (List.mem_of_getElem? hr)
    k_steps
    all_goals first
      | (refine fend_intro () (by assumption) (by assumption) (.head _) (sub_tail sub_nil) hI (by ksw_same) (find_step hr ?_ hP); simp only [covers, decide_eq_false_iff_not]; lia)
      | (refine hret _ _ _ _ (by assumption) (News.sub (l' := news) (by assumption) (sub_tail (sub_tail sub_nil))) ⟨rfl, ktn_int ?_⟩; rw [cellOf, find_hit hr (by simp only [covers, decide_eq_true_eq]; lia) hP]; rfl)

theorem ring_from_ok {w : World} {mean : ExcName → Option Value} {mg mb : Str → Option Value} (S : TS) (tx : Addr) (hx : S.x = tx) (lv : List Int) (hL : Lv S lv) (n : Int) (i : Nat) (hi : lv[i]? = some n) (hnd : lv.Nodup) (t : Tok) (cnt : Int) (tc : Tok) :
    CallOk w mean mg mb (.ref 217) [.ref tx, .int n t, .int cnt tc] 40 900 (fun news => TreeIn w news S) (fun news news' v => news' = news ∧ ∃ t, v = .int (ringAt lv i cnt) t) := by
  subst hx
  unfold CallOk
  k_fill
  intro dp un gd cn cs a ccd cl outer A₀ base h₀ L m news s Q E B F X N Tp hk hT hd hu hret
  refine wpAny_call ?_
  k_dflt ktr_enter
  k_with "call ref" =>
    first
    | (with_reducible show wpAny _ _ (call (Value.ref 133) _) _ _ _)
      ktr_call 0 (leaf_ok S _ rfl n (by assumption) _ (by assumption))
      intro r' news' h' tk' F' N' P'
      obtain ⟨rfl, rfl⟩ := P'
      (try dsimp only)
      (try simp only [AllLt, and_true] at l9)
      (try simp only [AllLt, and_true] at hl')
    | (with_reducible show wpAny _ _ (call (Value.ref 196) _) _ _ _)
      ktr_call 0 (leaves_ok S _ rfl lv hL)
      intro r' news' h' tk' F' N' P'
      obtain ⟨a', vs', n', rfl, rfl, hi', hl'⟩ := P'
      (try dsimp only)
      (try simp only [AllLt, and_true] at l9)
      (try simp only [AllLt, and_true] at hl')
  have hlen := hL.len
  have hilt := lt_of_get hi
  have hn := hL.dom n (List.mem_of_getElem? hi)
  have hs0 := hL.sort n (List.mem_of_getElem? hi)
  k_steps
  k_dflt (refine' ix_ints (i := i) ?N ?m hi' ?k hnd ?z ?_)
  case N => k_asm
  case m => k_mem
  case k => exact hi
  case z => lia
  k_steps
  exact hret _ _ _ _ (by assumption) (News.sub (l' := news) (by assumption) (sub_tail sub_nil)) ⟨rfl, ktn_int rfl⟩

theorem next_window_ok {w : World} {mean : ExcName → Option Value} {mg mb : Str → Option Value} (S : TS) (tx : Addr) (hx : S.x = tx) (lv : List Int) (hL : Lv S lv) (n : Int) (i : Nat) (hi : lv[i]? = some n) (hnd : lv.Nodup) (t : Tok) :
    CallOk w mean mg mb (.ref 224) [.ref tx, .int n t] 50 1000 (fun news => TreeIn w news S) (fun news news' v => news' = news ∧ ∃ t, v = .int (ringAt lv i 1) t) := by
  subst hx
  unfold CallOk
  k_fill
  intro dp un gd cn cs a ccd cl outer A₀ base h₀ L m news s Q E B F X N Tp hk hT hd hu hret
  refine wpAny_call ?_
  k_dflt ktr_enter
  k_with "call ref" =>
    first
    | (with_reducible show wpAny _ _ (call (Value.ref 217) _) _ _ _)
      ktr_call 0 (ring_from_ok S _ rfl lv hL n i hi hnd _ _ _)
      intro r' news' h' tk' F' N' P'
      obtain ⟨rfl, tk9, rfl⟩ := P'
      (try dsimp only)
      (try simp only [AllLt, and_true] at l9)
      (try simp only [AllLt, and_true] at hl')
  have hlen := hL.len
  have hilt := lt_of_get hi
  have hn := hL.dom n (List.mem_of_getElem? hi)
  have hs0 := hL.sort n (List.mem_of_getElem? hi)
  k_steps
  exact hret _ _ _ _ (by assumption) (by assumption) ⟨rfl, ktn_int rfl⟩

theorem previous_window_ok {w : World} {mean : ExcName → Option Value} {mg mb : Str → Option Value} (S : TS) (tx : Addr) (hx : S.x = tx) (lv : List Int) (hL : Lv S lv) (n : Int) (i : Nat) (hi : lv[i]? = some n) (hnd : lv.Nodup) (t : Tok) :
    CallOk w mean mg mb (.ref 231) [.ref tx, .int n t] 50 1000 (fun news => TreeIn w news S) (fun news news' v => news' = news ∧ ∃ t, v = .int (ringAt lv i (-1)) t) := by
  subst hx
  unfold CallOk
  k_fill
  intro dp un gd cn cs a ccd cl outer A₀ base h₀ L m news s Q E B F X N Tp hk hT hd hu hret
  refine wpAny_call ?_
  k_dflt ktr_enter
  k_with "call ref" =>
    first
    | (with_reducible show wpAny _ _ (call (Value.ref 217) _) _ _ _)
      ktr_call 0 (ring_from_ok S _ rfl lv hL n i hi hnd _ _ _)
      intro r' news' h' tk' F' N' P'
      obtain ⟨rfl, tk9, rfl⟩ := P'
      (try dsimp only)
      (try simp only [AllLt, and_true] at l9)
      (try simp only [AllLt, and_true] at hl')
  have hlen := hL.len
  have hilt := lt_of_get hi
  have hn := hL.dom n (List.mem_of_getElem? hi)
  have hs0 := hL.sort n (List.mem_of_getElem? hi)
  k_steps
  exact hret _ _ _ _ (by assumption) (by assumption) ⟨rfl, ktn_int rfl⟩
end
section
theorem fresh_M3 : True := by
  w_top off
  k_with_none
  k_with "w k_mem" => (with_unfolding_all refine memIn ?_; ktr_member)
  k_with "w units_room" => ktr_units
  k_with "w k_room" => ktr_room
  k_with "zT" => first | assumption | ((refine TreeIn.mono (by assumption) ?_); repeat (first | exact sub_nil | refine sub_tail ?_))
  k_with "zn" => first | assumption | exact .head _ | exact .tail _ (by assumption)
  k_with "zA" => first | k_extra "zx" | exact upd_ne _ _ (by first | assumption | exact Ne.symm (by assumption))
  k_with "zx" => first | with_reducible rfl | assumption
  k_with "zP" => exact ⟨by k_asm, by k_asm, by k_asm, by k_extra "zT", by k_extra "zn", by k_extra "zA"⟩
  k_with "zQ" => exact ⟨by k_asm, by k_asm, by k_asm, by k_extra "zT", by k_extra "zx", by k_extra "zx"⟩
  k_with "zX" => exact ⟨by k_asm, by k_asm, by k_asm, by k_extra "zT", by k_extra "zx"⟩
  k_with "zC" => exact ⟨by k_asm, by k_asm, by k_asm, by k_asm, by k_asm⟩
  k_with "w ktr_room" => first | exact room1 (by assumption) rfl | exact room0 (by assumption) rfl | exact room2 (by assumption) rfl | ((simp +zetaDelta only [depth_under_make, depth_under_kw, depth_in1, depth_deeper, depth_caller, recursionLimit] at *); omega)
  k_with "w ktr_units" => first | exact room0 (by assumption) rfl | exact room1 (by assumption) rfl | (have zcL := cLine_is; (simp +zetaDelta only [units_in1, units_deeper, Around.mark_units, units_caller] at *); omega)
  k_with "zL" => ((try simp only [List.length_reverse, List.length_map, List.length_append, List.length_cons, List.length_nil]); omega)
  k_with "w call builtin:list.pop" => (k_here; k_dflt (refine pop_last (by k_asm) (by k_asm) (by k_upd) (by first | omega | assumption) ?_); intro _ _ _; (try k_sweep))
  k_with "w call builtin:list.extend" => (k_here; (with_reducible show wpAny _ _ (call (Value.builtin _) [Value.ref _, Value.ref _]) _ _ _); k_dflt (refine ext_ints (by k_asm) (by k_asm) (by k_mem) (by k_updF) (by l_ints) (by k_extra "zL") ?_); intro _ _ _ zN; (try dsimp only at zN); (try k_sweep))
  k_with "w setAttr ref" => (k_here; k_dflt (refine set_s (by k_asm) (by k_asm) (by k_asm) (by k_inst) (by rfl) (by k_is) (by k_is) (by k_is) (by k_is) (by k_get) (by k_put) (by k_updF) (by exact Nat.le_of_ble_eq_true rfl) ?_; k_whole); intro _ _ _ _ _; (try k_sweep))
  k_with "w call builtin:list.append" => (k_here; (with_reducible show wpAny _ _ (call (Value.builtin _) [Value.ref _, _]) _ _ _); k_dflt (refine app_any (by k_asm) (by k_asm) (by k_upd) (by first | omega | k_extra "zL") ?_); intro _ _ zN; (try dsimp only at zN); (try k_sweep))
  k_with "w execs cons" => (k_here; first | (refine execs_shut (s := ‹Shared›) ?_; intro _ _ _) | (refine execs_lit ?_; intro _ _ _) | (refine execs_shut0 ?_; intro _ _))
  k_with "w SPost" => first | refine spost_next (by assumption) ?_ | refine spost_ret (by assumption) ?_ | refine spost_cont (by assumption) ?_ | refine spost_brk (by assumption) ?_
  k_with "w CPost" => (refine cpost_of (by assumption) ?_)
  k_with "w WPost" => (dsimp only [WPost])
  k_with "w ksw_same" => (intro zz z3; (simp only [List.contains_cons, List.contains_nil, Bool.or_false, Bool.or_eq_false_iff, beq_eq_false_iff_ne, ne_eq] at z3); first | (simp [z3]; done) | (simp +zetaDelta [z3]; done))
  k_with "w FPost" => (dsimp only [FPost])
  k_with "w execs nil" => with_reducible refine wpAny_execs_nil ?_
  k_with "w call builtin:len" => (k_here; (with_reducible show wpAny _ _ (call (Value.builtin "len") [Value.ref _]) _ _ _); (refine len_ints (by k_asm) (by k_dflt k_mem) (by with_reducible assumption) (by k_extra "zL") ?_); (try simp only [List.length_map]))
  k_with "w eval Dict" => (k_here; k_dflt (refine kdn_str (by rfl) (by k_asm) (by first | k_asm | exact News.nil) (by exact Top.nolimit (by k_asm)) (by rfl) (by rfl) (by exact List.cons_ne_nil _ _) (by exact Nat.le_of_ble_eq_true rfl) ?_); intro zd zh zo zF zN zl zlo zhd; (try k_lt zl))
  k_with "w eval Constant int" => (with_reducible refine const_int_s ?_; intro _)
  k_with "w eval Constant str" => (with_reducible refine const_str_s ?_; intro _)
  k_with "w binaryOp Add int int" => (with_reducible refine add_int_s ?_; intro _)
  k_with "w binaryOp Sub int int" => (with_reducible refine sub_int_s ?_; intro _)
  k_with "w storeName" => (k_here; k_dflt (refine store_s (by k_asm) (by k_asm) ?_ rfl rfl; k_whole); intro _ _ _ _ _; (try k_sweep))
  k_with "w newTuple" => (k_here; kup_bare; k_dflt (refine tuple_s (by k_asm) (by k_asm) ?_ (by kmk_size)); intro _ _ _ _ zl; (try k_lt zl); (try k_sweep))
  k_with "w ktr_enter" => first | (refine enter_s (by k_extra "zC") rfl rfl (by first | assumption | exact rfl) (by k_is) (by k_is) (by ktr_room) (by first | exact BindsTo.of_eq rfl | exact binds_K (by k_in) rfl (by k_is) rfl rfl rfl) (by exact locs rfl) (by rfl) ?_ (by rfl) (by rfl) (by rfl) (by decide); k_whole; intro _ _ _ _ _ _ _ _ _ _ _ _; (try dsimp only); (try k_fold)) | (refine enterC_s (by k_extra "zC") rfl rfl (by first | assumption | exact rfl) (by k_is) (by k_is) (by ktr_room) (by first | exact BindsTo.of_eq rfl | exact binds_K (by k_in) rfl (by k_is) rfl rfl rfl) (by rfl) (by decide +kernel) ?_ (by rfl) (by rfl) (by rfl); k_whole; intro _ _ _ _ _ _ _ _ _ zN zY _ _ _ zl; (try k_lt zl); k_cells zY; (try simp only [List.cons_append, List.nil_append] at zN); (try dsimp only); (try k_fold))
  k_with "w getAttr ref" => (k_here; (with_reducible show wpAny _ _ (getAttr (Value.ref (AD.x (TS.A _ _))) _ _) _ _ _); first | ((with_reducible (first | apply rs_number | apply rs_sort | apply rs_parent | apply rs_left | apply rs_top | apply rs_width | apply rs_height)); (next => k_extra "zP"); intro _ _) | ((with_reducible (apply rs_children)); (next => k_extra "zP"); intro _) | ((with_reducible (first | apply rs_buffer | apply rs_start | apply rs_point | apply rs_hscroll)); (next => k_extra "zP"); intro _ _ _) | ((with_reducible (apply rs_earlier)); (next => k_extra "zP"); intro _ _ _ _))
  k_with "w getAttr ref" => (k_here; (with_reducible show wpAny _ _ (getAttr (Value.ref (TS.x _)) _ _) _ _ _); first | ((with_reducible (apply rs_t_windows)); (next => k_extra "zQ"); intro _) | ((with_reducible (first | apply rs_t_root | apply rs_t_selected | apply rs_t_last | apply rs_t_least_width | apply rs_t_least_height)); (next => k_extra "zQ"); intro _ _) | ((with_reducible (apply rs_t_clock)); (next => k_extra "zQ"); intro _ _ _))
  k_with "w getMethod ref" => (k_here; (with_reducible show wpAny _ _ (getMethod (Value.ref (AD.x (TS.A _ _))) _ _) _ _ _); ((with_reducible (first | apply ms_size | apply ms_set_size | apply ms_place | apply ms_shown | apply ms_show)); (next => k_extra "zP")))
  k_with "w getMethod ref" => (k_here; (with_reducible show wpAny _ _ (getMethod (Value.ref (TS.x _)) _ _) _ _ _); ((with_reducible (first | apply ms_t_window | apply ms_t_leaf | apply ms_t_touch | apply ms_t_fresh | apply ms_t_select | apply ms_t_least_leaf)); (next => k_extra "zQ")))
  k_with "w k_all" => first | assumption | exact all_succ (by assumption) | exact all_succ2 (by assumption)
  k_with "w subscriptTail" => (k_here; (with_reducible apply it_tail); (next => k_asm); (next => k_extra "zT"); rotate_left; (next => with_unfolding_all rfl))
  k_with "w getItem ref int" => (k_here; (with_reducible apply it_get); (next => k_asm); (next => k_extra "zT"); (next => k_extra "zn"))
  k_with "w getMethod ref" => (k_here; (with_reducible apply it_getm); (next => k_asm); (next => k_extra "zT"))
  k_with "w call builtin:dict.get" => (k_here; (with_reducible apply it_get2); (next => k_asm); (next => k_extra "zT"); (next => k_extra "zn"))
  k_with "w setAttr ref" => (k_here; (with_reducible show wpAny _ _ (setAttr (Value.ref (AD.x (TS.A _ _))) _ (Value.int _ _)) _ _ _); ((with_reducible (first | apply ws_parent | apply ws_left | apply ws_top | apply ws_width | apply ws_height | apply ws_buffer | apply ws_start | apply ws_point | apply ws_hscroll | apply ws_use_time)); (next => k_extra "zP"); intro _ _ _ _ _ _; (try k_sweep)))
  k_with "w setAttr ref" => (k_here; (with_reducible show wpAny _ _ (setAttr (Value.ref (TS.x _)) _ (Value.int _ _)) _ _ _); ((with_reducible (first | apply ws_t_last | apply ws_t_clock | apply ws_t_root | apply ws_t_selected)); (next => k_extra "zX"); intro _ _ _ _ _ _; (try k_sweep)))
  k_with "w exec Raise some none" => (first | (exfalso; omega) | (k_here; (with_reducible show wpAny _ _ (exec (Stmt.Raise (some (Expr.Call (Expr.Name (Str.ofString "LispSignal") _) _ _ _)) none _) _) _ _ _); k_dflt (refine raise_K rfl ?_)))
  k_with "w call ref" => (k_here; k_dflt (refine exc_call (by k_asm) (by k_asm) (by k_asm) ?_); intro _ _ _ _ _ _; refine wpAny_call ?_; k_dflt ktr_enter)
  k_with "w setAttr ref" => (k_here; (with_reducible show wpAny _ _ (setAttr (Value.ref _) (Str.ofString "symbol") _) _ _ _); k_dflt (refine exc_store0 (by k_asm) (by k_asm) (by k_asm) (by assumption) (by exact (sig_facts _).2.2.2.1) (by exact lk_exc _ (.inl rfl)) ?_); intro _ _ _ _ _ _ _ _ _)
  k_with "w setAttr ref" => (k_here; (with_reducible show wpAny _ _ (setAttr (Value.ref _) (Str.ofString "data") _) _ _ _); k_dflt (refine exc_store1 (by k_asm) (by k_asm) (by k_asm) (by assumption) (by assumption) (by assumption) (by assumption) (by exact (sig_facts _).2.2.2.2.1) (by exact lk_exc _ (.inr rfl)) ?_ (by exact Within.cons _ _ Within.nil) (by (rw [sizeLine_eq]; decide))); intro _ _ _ _ _ _)
  k_with "w RaiseK" => (k_here; k_dflt (refine raiseK_intro (by k_asm) (by k_asm) (by k_asm) (by k_mem) ?_))
  k_with "w And" => ((with_reducible show Value.none = Value.none ∧ _); refine ⟨rfl, ?_⟩)
  k_with "zh" => first | exact rfl | assumption
  k_with "zp" => first | k_extra "zT" | exact trivial
  trivial
structure LC where
  fv : List Value
  fn : Nat

theorem law_cell_ok {w : World} {mean : ExcName → Option Value} {mg mb : Str → Option Value} (S : TS) (tx : Addr) (hx : S.x = tx) (lv : List Int) (hL : Lv S lv) (col row : Int) (tc tr : Tok) :
    CallOk w mean mg mb (.ref 360) [.ref tx, .int col tc, .int row tr] 40 900 (fun news => TreeIn w news S) (fun news news' v => news' = news ∧ ∃ t, v = .int (cellOne S.W lv col row) t) := by
  subst hx
  unfold CallOk
  k_fill
  intro dp un gd cn cs a ccd cl outer A₀ base h₀ L m news s Q E B F X N Tp hk hT hd hu hret
  refine wpAny_call ?_
  k_dflt ktr_enter
  k_with "call ref" =>
    first
    | (with_reducible show wpAny _ _ (call (Value.ref 296) _) _ _ _)
      ktr_call 0 (edges_ok S _ rfl _ (by assumption) _)
      intro r' news' h' tk' F' N' P'
      obtain ⟨a9, t91, t92, t93, t94, rfl, rfl, l9⟩ := P'
      (try dsimp only)
      (try simp only [AllLt, and_true] at l9)
      (try simp only [AllLt, and_true] at hl')
    | (with_reducible show wpAny _ _ (call (Value.ref 196) _) _ _ _)
      ktr_call 0 (leaves_ok S _ rfl lv hL)
      intro r' news' h' tk' F' N' P'
      obtain ⟨a', vs', n', rfl, rfl, hi', hl'⟩ := P'
      (try dsimp only)
      (try simp only [AllLt, and_true] at l9)
      (try simp only [AllLt, and_true] at hl')
  have hlen := hL.len
  k_with "pyIter ref" => refine stop ?_
  k_with "exec For Name Call cons nil" =>
    k_here
    rename Fr _ _ _ _ => lF'
    with_unfolding_all refine' For_invVF lF' ?k1 ?k2 ?_
    case k1 => exact rfl
    case k2 => exact rfl
  k_steps
  refine go ?_
  rename Fr _ _ _ _ => lF'
  rename News _ _ _ _ => lN'
  rename ∀ p ∈ news, _ => lA
  with_unfolding_all refine' for_list (σ := LC) (fun c => (a', listOf vs'.toArray n') :: (_, listOf c.fv.toArray c.fn) :: news) [Str.ofString "left", Str.ofString "top", Str.ofString "right", Str.ofString "bottom"] (fun i c => IntsAre c.fv ((lv.take i).filter (covers S.W col row))) ⟨[], 0⟩ (by rfl) (fun _ _ _ => .head _) lF' lN' .nil ?turn ?done
  case done =>
    clear lF' lN'
    intro c u h' tk' hP F' N'
    have hl := hi'.length
    rw [hl, List.take_length] at hP
    obtain ⟨fv, fn⟩ := c
    dsimp only at hP N'
    generalize hg : lv.filter (covers S.W col row) = G at hP
    have hGl : G.length ≤ lv.length := by rw [← hg]; exact List.length_filter_le _ _
    k_steps
    · obtain ⟨r0, rfl⟩ := List.length_eq_one_iff.mp (by lia : G.length = 1)
      refine hret _ _ _ _ (by assumption) (News.sub (l' := news) (by assumption) (sub_tail (sub_tail sub_nil))) ⟨rfl, ktn_int ?_⟩
      rw [cellOne, hg]; rfl
    · refine hret _ _ _ _ (by assumption) (News.sub (l' := news) (by assumption) (sub_tail (sub_tail sub_nil))) ⟨rfl, ktn_int ?_⟩
      rw [cellOne, hg]
      match G with
      | [] => rfl
      | [x] => exact absurd rfl (by assumption)
      | _ :: _ :: _ => rfl
  case turn =>
    clear lF' lN'
    intro i v I oi c u h' tk' hv hP hI F' N'
    refine shut ?_
    intro G9 hG9
    obtain ⟨fv, fn⟩ := c
    dsimp only at hP N'
    obtain ⟨r, tv, hr, rfl⟩ := ints_at hi' hv
    refine hG9 ?_
    have hr' : r ∈ S.dom := hL.dom r (List.mem_of_getElem? hr)
    have hI1 := neN (hI _ (.tail _ (.head _)))
    have hI2 := neN (hI _ (.head _))
    dsimp only at hI1 hI2
    have hfl := hP.length
    have hfl2 : ((lv.take i).filter (covers S.W col row)).length ≤ (lv.take i).length := List.length_filter_le _ _
    rw [List.length_take] at hfl2
    k_steps
    · refine fend_intro ⟨fv ++ [.int r tv], _⟩ (by assumption) (by assumption) (.tail _ (.head _)) (by kst_in) (List.forall_mem_cons.mpr ⟨hI2, List.forall_mem_cons.mpr ⟨hI1, fun p hp => hI p (.tail _ (.tail _ hp))⟩⟩) (by ksw_same) ?_
      rw [take_step hr, List.filter_append]
      have hc : covers S.W col row r = true := by simp only [covers, decide_eq_true_eq]; lia
      simp only [List.filter_cons, hc, List.filter_nil, if_true]
      exact hP.append (.cons _ _ .nil)
    all_goals
      refine fend_intro ⟨fv, _⟩ (by assumption) (by assumption) (.tail _ (.head _)) (by kst_in) hI (by ksw_same) ?_
      rw [take_step hr, List.filter_append]
      have hc : covers S.W col row r = false := by simp only [covers, decide_eq_false_iff_not]; lia
      simp only [List.filter_cons, hc, List.filter_nil, Bool.false_eq_true, if_false, List.append_nil]
      exact hP

theorem direction_of_left {w : World} {mean : ExcName → Option Value} {mg mb : Str → Option Value} (t : Tok) :
    CallOk w mean mg mb (.ref 252) [.str (Str.ofString "left") t] 10 300 (fun _ => True) (fun news news' v => ∃ a t1 t2, v = .ref a ∧ news' = (a, tupleOf [.int 0 t1, .int (-1) t2]) :: news ∧ AllLt a news) := by
  unfold CallOk
  k_fill
  intro dp un gd cn cs a ccd cl outer A₀ base h₀ L m news s Q E B F X N Tp hk hT hd hu hret
  refine wpAny_call ?_
  k_dflt ktr_enter
  k_steps
  rename News _ _ _ _ => lN'
  refine' hret _ ((_, tupleOf [.int 0 _, .int (-1) _]) :: news) _ _ (by assumption) (News.sub lN' (sub_cons ?m ?s)) ⟨_, _, _, rfl, rfl, ?l⟩
  case m => refine .tail _ ?_; refine .tail _ ?_; refine .tail _ ?_; exact .head _
  case s => exact sub_tail (sub_tail (sub_tail (sub_tail (sub_tail sub_nil))))
  case l => tbn_lt

theorem direction_of_right {w : World} {mean : ExcName → Option Value} {mg mb : Str → Option Value} (t : Tok) :
    CallOk w mean mg mb (.ref 252) [.str (Str.ofString "right") t] 10 300 (fun _ => True) (fun news news' v => ∃ a t1 t2, v = .ref a ∧ news' = (a, tupleOf [.int 0 t1, .int 1 t2]) :: news ∧ AllLt a news) := by
  unfold CallOk
  k_fill
  intro dp un gd cn cs a ccd cl outer A₀ base h₀ L m news s Q E B F X N Tp hk hT hd hu hret
  refine wpAny_call ?_
  k_dflt ktr_enter
  k_steps
  rename News _ _ _ _ => lN'
  refine' hret _ ((_, tupleOf [.int 0 _, .int 1 _]) :: news) _ _ (by assumption) (News.sub lN' (sub_cons ?m ?s)) ⟨_, _, _, rfl, rfl, ?l⟩
  case m => refine .tail _ ?_; refine .tail _ ?_; exact .head _
  case s => exact sub_tail (sub_tail (sub_tail (sub_tail (sub_tail sub_nil))))
  case l => tbn_lt

theorem direction_of_above {w : World} {mean : ExcName → Option Value} {mg mb : Str → Option Value} (t : Tok) :
    CallOk w mean mg mb (.ref 252) [.str (Str.ofString "above") t] 10 300 (fun _ => True) (fun news news' v => ∃ a t1 t2, v = .ref a ∧ news' = (a, tupleOf [.int 1 t1, .int (-1) t2]) :: news ∧ AllLt a news) := by
  unfold CallOk
  k_fill
  intro dp un gd cn cs a ccd cl outer A₀ base h₀ L m news s Q E B F X N Tp hk hT hd hu hret
  refine wpAny_call ?_
  k_dflt ktr_enter
  k_steps
  rename News _ _ _ _ => lN'
  refine' hret _ ((_, tupleOf [.int 1 _, .int (-1) _]) :: news) _ _ (by assumption) (News.sub lN' (sub_cons ?m ?s)) ⟨_, _, _, rfl, rfl, ?l⟩
  case m => refine .tail _ ?_; exact .head _
  case s => exact sub_tail (sub_tail (sub_tail (sub_tail (sub_tail sub_nil))))
  case l => tbn_lt

theorem direction_of_below {w : World} {mean : ExcName → Option Value} {mg mb : Str → Option Value} (t : Tok) :
    CallOk w mean mg mb (.ref 252) [.str (Str.ofString "below") t] 10 300 (fun _ => True) (fun news news' v => ∃ a t1 t2, v = .ref a ∧ news' = (a, tupleOf [.int 1 t1, .int 1 t2]) :: news ∧ AllLt a news) := by
  unfold CallOk
  k_fill
  intro dp un gd cn cs a ccd cl outer A₀ base h₀ L m news s Q E B F X N Tp hk hT hd hu hret
  refine wpAny_call ?_
  k_dflt ktr_enter
  k_steps
  rename News _ _ _ _ => lN'
  refine' hret _ ((_, tupleOf [.int 1 _, .int 1 _]) :: news) _ _ (by assumption) (News.sub lN' (sub_cons ?m ?s)) ⟨_, _, _, rfl, rfl, ?l⟩
  case m => exact .head _
  case s => exact sub_tail (sub_tail (sub_tail (sub_tail (sub_tail sub_nil))))
  case l => tbn_lt

def clamp (hi off : Int) : Int := if hi < (if 0 > off then 0 else off) then hi else (if 0 > off then 0 else off)
def wordOf : Nat → Str
  | 0 => Str.ofString "left"
  | 1 => Str.ofString "right"
  | 2 => Str.ofString "above"
  | _ => Str.ofString "below"
def beyond (r : WR) (off : Int) : Nat → Int × Int
  | 0 => (r.left - 1, r.top + clamp (r.height - 1) off)
  | 1 => (r.left + r.width, r.top + clamp (r.height - 1) off)
  | 2 => (r.left + clamp (r.width - 1) off, r.top - 1)
  | _ => (r.left + clamp (r.width - 1) off, r.top + r.height)
def least (a b : Int) : Int := if b < a then b else a
def beside (r : WR) (off : Int) : Nat → Int × Int
  | 0 => (r.left - 1, least (r.top + off) (r.top + r.height - 1))
  | 1 => (r.left + r.width, least (r.top + off) (r.top + r.height - 1))
  | 2 => (least (r.left + off) (r.left + r.width - 1), r.top - 1)
  | _ => (least (r.left + off) (r.left + r.width - 1), r.top + r.height)
theorem beyond_beside (r : WR) (off : Int) (h : 0 ≤ off) (k : Nat) : beyond r off k = beside r off k := by
  have e1 : ∀ a b : Int, a + clamp (b - 1) off = least (a + off) (a + b - 1) := by
    intro a b
    unfold clamp least
    rw [if_neg (by lia : ¬ 0 > off)]
    split <;> split <;> lia
  match k with
  | 0 | 1 | 2 | _ + 3 => simp only [beyond, beside, e1]

theorem in_direction_left {w : World} {mean : ExcName → Option Value} {mg mb : Str → Option Value} (S : TS) (tx : Addr) (hx : S.x = tx) (n : Int) (hn : n ∈ S.dom) (t : Tok) (lv : List Int) (hL : Lv S lv) (hs0 : (S.W n).sort = 0) (off : Int) (tw to : Tok) :
    CallOk w mean mg mb (.ref 260) [.ref tx, .int n t, .str (Str.ofString "left") tw, .int off to] 40 900 (fun news => TreeIn w news S) (fun news news' v => news' = news ∧ ∃ t, v = .int (cellOf S.W lv (beyond (S.W n) off 0).1 (beyond (S.W n) off 0).2) t) := by
  subst hx
  unfold CallOk
  k_fill
  intro dp un gd cn cs a ccd cl outer A₀ base h₀ L m news s Q E B F X N Tp hk hT hd hu hret
  refine wpAny_call ?_
  k_dflt ktr_enter
  k_with "call ref" =>
    first
    | (with_reducible show wpAny _ _ (call (Value.ref 133) _) _ _ _)
      ktr_call 0 (leaf_ok S _ rfl n (by assumption) _ (by assumption))
      intro r' news' h' tk' F' N' P'
      obtain ⟨rfl, rfl⟩ := P'
      (try dsimp only)
      (try simp only [AllLt, and_true] at l9)
      (try simp only [AllLt, and_true] at hl')
    | (with_reducible show wpAny _ _ (call (Value.ref 252) _) _ _ _)
      ktr_call 0 (direction_of_left _)
      intro r' news' h' tk' F' N' P'
      obtain ⟨a9, t91, t92, rfl, rfl, l9⟩ := P'
      (try dsimp only)
      (try simp only [AllLt, and_true] at l9)
      (try simp only [AllLt, and_true] at hl')
    | (with_reducible show wpAny _ _ (call (Value.ref 245) _) _ _ _)
      ktr_call 0 (window_at_ok S _ rfl lv hL _ _ _ _)
      intro r' news' h' tk' F' N' P'
      obtain ⟨rfl, tk9, rfl⟩ := P'
      (try dsimp only)
      (try simp only [AllLt, and_true] at l9)
      (try simp only [AllLt, and_true] at hl')
  k_steps
  exact hret _ _ _ _ (by assumption) (News.sub (l' := news') (by assumption) (sub_tail sub_nil)) ⟨rfl, ktn_int rfl⟩

theorem in_direction_right {w : World} {mean : ExcName → Option Value} {mg mb : Str → Option Value} (S : TS) (tx : Addr) (hx : S.x = tx) (n : Int) (hn : n ∈ S.dom) (t : Tok) (lv : List Int) (hL : Lv S lv) (hs0 : (S.W n).sort = 0) (off : Int) (tw to : Tok) :
    CallOk w mean mg mb (.ref 260) [.ref tx, .int n t, .str (Str.ofString "right") tw, .int off to] 40 900 (fun news => TreeIn w news S) (fun news news' v => news' = news ∧ ∃ t, v = .int (cellOf S.W lv (beyond (S.W n) off 1).1 (beyond (S.W n) off 1).2) t) := by
  subst hx
  unfold CallOk
  k_fill
  intro dp un gd cn cs a ccd cl outer A₀ base h₀ L m news s Q E B F X N Tp hk hT hd hu hret
  refine wpAny_call ?_
  k_dflt ktr_enter
  k_with "call ref" =>
    first
    | (with_reducible show wpAny _ _ (call (Value.ref 133) _) _ _ _)
      ktr_call 0 (leaf_ok S _ rfl n (by assumption) _ (by assumption))
      intro r' news' h' tk' F' N' P'
      obtain ⟨rfl, rfl⟩ := P'
      (try dsimp only)
      (try simp only [AllLt, and_true] at l9)
      (try simp only [AllLt, and_true] at hl')
    | (with_reducible show wpAny _ _ (call (Value.ref 252) _) _ _ _)
      ktr_call 0 (direction_of_right _)
      intro r' news' h' tk' F' N' P'
      obtain ⟨a9, t91, t92, rfl, rfl, l9⟩ := P'
      (try dsimp only)
      (try simp only [AllLt, and_true] at l9)
      (try simp only [AllLt, and_true] at hl')
    | (with_reducible show wpAny _ _ (call (Value.ref 245) _) _ _ _)
      ktr_call 0 (window_at_ok S _ rfl lv hL _ _ _ _)
      intro r' news' h' tk' F' N' P'
      obtain ⟨rfl, tk9, rfl⟩ := P'
      (try dsimp only)
      (try simp only [AllLt, and_true] at l9)
      (try simp only [AllLt, and_true] at hl')
  k_steps
  exact hret _ _ _ _ (by assumption) (News.sub (l' := news') (by assumption) (sub_tail sub_nil)) ⟨rfl, ktn_int rfl⟩

theorem in_direction_above {w : World} {mean : ExcName → Option Value} {mg mb : Str → Option Value} (S : TS) (tx : Addr) (hx : S.x = tx) (n : Int) (hn : n ∈ S.dom) (t : Tok) (lv : List Int) (hL : Lv S lv) (hs0 : (S.W n).sort = 0) (off : Int) (tw to : Tok) :
    CallOk w mean mg mb (.ref 260) [.ref tx, .int n t, .str (Str.ofString "above") tw, .int off to] 40 900 (fun news => TreeIn w news S) (fun news news' v => news' = news ∧ ∃ t, v = .int (cellOf S.W lv (beyond (S.W n) off 2).1 (beyond (S.W n) off 2).2) t) := by
  subst hx
  unfold CallOk
  k_fill
  intro dp un gd cn cs a ccd cl outer A₀ base h₀ L m news s Q E B F X N Tp hk hT hd hu hret
  refine wpAny_call ?_
  k_dflt ktr_enter
  k_with "call ref" =>
    first
    | (with_reducible show wpAny _ _ (call (Value.ref 133) _) _ _ _)
      ktr_call 0 (leaf_ok S _ rfl n (by assumption) _ (by assumption))
      intro r' news' h' tk' F' N' P'
      obtain ⟨rfl, rfl⟩ := P'
      (try dsimp only)
      (try simp only [AllLt, and_true] at l9)
      (try simp only [AllLt, and_true] at hl')
    | (with_reducible show wpAny _ _ (call (Value.ref 252) _) _ _ _)
      ktr_call 0 (direction_of_above _)
      intro r' news' h' tk' F' N' P'
      obtain ⟨a9, t91, t92, rfl, rfl, l9⟩ := P'
      (try dsimp only)
      (try simp only [AllLt, and_true] at l9)
      (try simp only [AllLt, and_true] at hl')
    | (with_reducible show wpAny _ _ (call (Value.ref 245) _) _ _ _)
      ktr_call 0 (window_at_ok S _ rfl lv hL _ _ _ _)
      intro r' news' h' tk' F' N' P'
      obtain ⟨rfl, tk9, rfl⟩ := P'
      (try dsimp only)
      (try simp only [AllLt, and_true] at l9)
      (try simp only [AllLt, and_true] at hl')
  k_steps
  exact hret _ _ _ _ (by assumption) (News.sub (l' := news') (by assumption) (sub_tail sub_nil)) ⟨rfl, ktn_int rfl⟩

theorem in_direction_below {w : World} {mean : ExcName → Option Value} {mg mb : Str → Option Value} (S : TS) (tx : Addr) (hx : S.x = tx) (n : Int) (hn : n ∈ S.dom) (t : Tok) (lv : List Int) (hL : Lv S lv) (hs0 : (S.W n).sort = 0) (off : Int) (tw to : Tok) :
    CallOk w mean mg mb (.ref 260) [.ref tx, .int n t, .str (Str.ofString "below") tw, .int off to] 40 900 (fun news => TreeIn w news S) (fun news news' v => news' = news ∧ ∃ t, v = .int (cellOf S.W lv (beyond (S.W n) off 3).1 (beyond (S.W n) off 3).2) t) := by
  subst hx
  unfold CallOk
  k_fill
  intro dp un gd cn cs a ccd cl outer A₀ base h₀ L m news s Q E B F X N Tp hk hT hd hu hret
  refine wpAny_call ?_
  k_dflt ktr_enter
  k_with "call ref" =>
    first
    | (with_reducible show wpAny _ _ (call (Value.ref 133) _) _ _ _)
      ktr_call 0 (leaf_ok S _ rfl n (by assumption) _ (by assumption))
      intro r' news' h' tk' F' N' P'
      obtain ⟨rfl, rfl⟩ := P'
      (try dsimp only)
      (try simp only [AllLt, and_true] at l9)
      (try simp only [AllLt, and_true] at hl')
    | (with_reducible show wpAny _ _ (call (Value.ref 252) _) _ _ _)
      ktr_call 0 (direction_of_below _)
      intro r' news' h' tk' F' N' P'
      obtain ⟨a9, t91, t92, rfl, rfl, l9⟩ := P'
      (try dsimp only)
      (try simp only [AllLt, and_true] at l9)
      (try simp only [AllLt, and_true] at hl')
    | (with_reducible show wpAny _ _ (call (Value.ref 245) _) _ _ _)
      ktr_call 0 (window_at_ok S _ rfl lv hL _ _ _ _)
      intro r' news' h' tk' F' N' P'
      obtain ⟨rfl, tk9, rfl⟩ := P'
      (try dsimp only)
      (try simp only [AllLt, and_true] at l9)
      (try simp only [AllLt, and_true] at hl')
  k_steps
  exact hret _ _ _ _ (by assumption) (News.sub (l' := news') (by assumption) (sub_tail sub_nil)) ⟨rfl, ktn_int rfl⟩

theorem beside_left {w : World} {mean : ExcName → Option Value} {mg mb : Str → Option Value} (S : TS) (tx : Addr) (hx : S.x = tx) (n : Int) (hn : n ∈ S.dom) (t : Tok) (lv : List Int) (hL : Lv S lv) (hs0 : (S.W n).sort = 0) (off : Int) (tw to : Tok) :
    CallOk w mean mg mb (.ref 367) [.ref tx, .int n t, .str (Str.ofString "left") tw, .int off to] 50 1000 (fun news => TreeIn w news S) (fun news news' v => news' = news ∧ ∃ t, v = .int (cellOne S.W lv (beside (S.W n) off 0).1 (beside (S.W n) off 0).2) t) := by
  subst hx
  unfold CallOk
  k_fill
  intro dp un gd cn cs a ccd cl outer A₀ base h₀ L m news s Q E B F X N Tp hk hT hd hu hret
  refine wpAny_call ?_
  k_dflt ktr_enter
  k_with "call ref" =>
    first
    | (with_reducible show wpAny _ _ (call (Value.ref 296) _) _ _ _)
      ktr_call 0 (edges_ok S _ rfl n (by assumption) _)
      intro r' news' h' tk' F' N' P'
      obtain ⟨a9, t91, t92, t93, t94, rfl, rfl, l9⟩ := P'
      (try dsimp only)
      (try simp only [AllLt, and_true] at l9)
      (try simp only [AllLt, and_true] at hl')
    | (with_reducible show wpAny _ _ (call (Value.ref 360) _) _ _ _)
      ktr_call 0 (law_cell_ok S _ rfl lv hL _ _ _ _)
      intro r' news' h' tk' F' N' P'
      obtain ⟨rfl, tk9, rfl⟩ := P'
      (try dsimp only)
      (try simp only [AllLt, and_true] at l9)
      (try simp only [AllLt, and_true] at hl')
  k_steps
  exact hret _ _ _ _ (by assumption) (News.sub (l' := news) (by assumption) (sub_tail (sub_tail sub_nil))) ⟨rfl, ktn_int rfl⟩

theorem beside_right {w : World} {mean : ExcName → Option Value} {mg mb : Str → Option Value} (S : TS) (tx : Addr) (hx : S.x = tx) (n : Int) (hn : n ∈ S.dom) (t : Tok) (lv : List Int) (hL : Lv S lv) (hs0 : (S.W n).sort = 0) (off : Int) (tw to : Tok) :
    CallOk w mean mg mb (.ref 367) [.ref tx, .int n t, .str (Str.ofString "right") tw, .int off to] 50 1000 (fun news => TreeIn w news S) (fun news news' v => news' = news ∧ ∃ t, v = .int (cellOne S.W lv (beside (S.W n) off 1).1 (beside (S.W n) off 1).2) t) := by
  subst hx
  unfold CallOk
  k_fill
  intro dp un gd cn cs a ccd cl outer A₀ base h₀ L m news s Q E B F X N Tp hk hT hd hu hret
  refine wpAny_call ?_
  k_dflt ktr_enter
  k_with "call ref" =>
    first
    | (with_reducible show wpAny _ _ (call (Value.ref 296) _) _ _ _)
      ktr_call 0 (edges_ok S _ rfl n (by assumption) _)
      intro r' news' h' tk' F' N' P'
      obtain ⟨a9, t91, t92, t93, t94, rfl, rfl, l9⟩ := P'
      (try dsimp only)
      (try simp only [AllLt, and_true] at l9)
      (try simp only [AllLt, and_true] at hl')
    | (with_reducible show wpAny _ _ (call (Value.ref 360) _) _ _ _)
      ktr_call 0 (law_cell_ok S _ rfl lv hL _ _ _ _)
      intro r' news' h' tk' F' N' P'
      obtain ⟨rfl, tk9, rfl⟩ := P'
      (try dsimp only)
      (try simp only [AllLt, and_true] at l9)
      (try simp only [AllLt, and_true] at hl')
  k_steps
  exact hret _ _ _ _ (by assumption) (News.sub (l' := news) (by assumption) (sub_tail (sub_tail sub_nil))) ⟨rfl, ktn_int rfl⟩

theorem beside_above {w : World} {mean : ExcName → Option Value} {mg mb : Str → Option Value} (S : TS) (tx : Addr) (hx : S.x = tx) (n : Int) (hn : n ∈ S.dom) (t : Tok) (lv : List Int) (hL : Lv S lv) (hs0 : (S.W n).sort = 0) (off : Int) (tw to : Tok) :
    CallOk w mean mg mb (.ref 367) [.ref tx, .int n t, .str (Str.ofString "above") tw, .int off to] 50 1000 (fun news => TreeIn w news S) (fun news news' v => news' = news ∧ ∃ t, v = .int (cellOne S.W lv (beside (S.W n) off 2).1 (beside (S.W n) off 2).2) t) := by
  subst hx
  unfold CallOk
  k_fill
  intro dp un gd cn cs a ccd cl outer A₀ base h₀ L m news s Q E B F X N Tp hk hT hd hu hret
  refine wpAny_call ?_
  k_dflt ktr_enter
  k_with "call ref" =>
    first
    | (with_reducible show wpAny _ _ (call (Value.ref 296) _) _ _ _)
      ktr_call 0 (edges_ok S _ rfl n (by assumption) _)
      intro r' news' h' tk' F' N' P'
      obtain ⟨a9, t91, t92, t93, t94, rfl, rfl, l9⟩ := P'
      (try dsimp only)
      (try simp only [AllLt, and_true] at l9)
      (try simp only [AllLt, and_true] at hl')
    | (with_reducible show wpAny _ _ (call (Value.ref 360) _) _ _ _)
      ktr_call 0 (law_cell_ok S _ rfl lv hL _ _ _ _)
      intro r' news' h' tk' F' N' P'
      obtain ⟨rfl, tk9, rfl⟩ := P'
      (try dsimp only)
      (try simp only [AllLt, and_true] at l9)
      (try simp only [AllLt, and_true] at hl')
  k_steps
  exact hret _ _ _ _ (by assumption) (News.sub (l' := news) (by assumption) (sub_tail (sub_tail sub_nil))) ⟨rfl, ktn_int rfl⟩

theorem beside_below {w : World} {mean : ExcName → Option Value} {mg mb : Str → Option Value} (S : TS) (tx : Addr) (hx : S.x = tx) (n : Int) (hn : n ∈ S.dom) (t : Tok) (lv : List Int) (hL : Lv S lv) (hs0 : (S.W n).sort = 0) (off : Int) (tw to : Tok) :
    CallOk w mean mg mb (.ref 367) [.ref tx, .int n t, .str (Str.ofString "below") tw, .int off to] 50 1000 (fun news => TreeIn w news S) (fun news news' v => news' = news ∧ ∃ t, v = .int (cellOne S.W lv (beside (S.W n) off 3).1 (beside (S.W n) off 3).2) t) := by
  subst hx
  unfold CallOk
  k_fill
  intro dp un gd cn cs a ccd cl outer A₀ base h₀ L m news s Q E B F X N Tp hk hT hd hu hret
  refine wpAny_call ?_
  k_dflt ktr_enter
  k_with "call ref" =>
    first
    | (with_reducible show wpAny _ _ (call (Value.ref 296) _) _ _ _)
      ktr_call 0 (edges_ok S _ rfl n (by assumption) _)
      intro r' news' h' tk' F' N' P'
      obtain ⟨a9, t91, t92, t93, t94, rfl, rfl, l9⟩ := P'
      (try dsimp only)
      (try simp only [AllLt, and_true] at l9)
      (try simp only [AllLt, and_true] at hl')
    | (with_reducible show wpAny _ _ (call (Value.ref 360) _) _ _ _)
      ktr_call 0 (law_cell_ok S _ rfl lv hL _ _ _ _)
      intro r' news' h' tk' F' N' P'
      obtain ⟨rfl, tk9, rfl⟩ := P'
      (try dsimp only)
      (try simp only [AllLt, and_true] at l9)
      (try simp only [AllLt, and_true] at hl')
  k_steps
  exact hret _ _ _ _ (by assumption) (News.sub (l' := news) (by assumption) (sub_tail (sub_tail sub_nil))) ⟨rfl, ktn_int rfl⟩

theorem in_direction_ok {w : World} {mean : ExcName → Option Value} {mg mb : Str → Option Value} (S : TS) (tx : Addr) (hx : S.x = tx) (n : Int) (hn : n ∈ S.dom) (t : Tok) (lv : List Int) (hL : Lv S lv) (hs0 : (S.W n).sort = 0) (off : Int) (tw to : Tok) (k : Nat) (hk : k < 4) :
    CallOk w mean mg mb (.ref 260) [.ref tx, .int n t, .str (wordOf k) tw, .int off to] 40 900 (fun news => TreeIn w news S) (fun news news' v => news' = news ∧ ∃ t, v = .int (cellOf S.W lv (beyond (S.W n) off k).1 (beyond (S.W n) off k).2) t) := by
  match k, hk with
  | 0, _ => exact in_direction_left S tx hx n hn t lv hL hs0 off tw to
  | 1, _ => exact in_direction_right S tx hx n hn t lv hL hs0 off tw to
  | 2, _ => exact in_direction_above S tx hx n hn t lv hL hs0 off tw to
  | 3, _ => exact in_direction_below S tx hx n hn t lv hL hs0 off tw to

theorem beside_ok {w : World} {mean : ExcName → Option Value} {mg mb : Str → Option Value} (S : TS) (tx : Addr) (hx : S.x = tx) (n : Int) (hn : n ∈ S.dom) (t : Tok) (lv : List Int) (hL : Lv S lv) (hs0 : (S.W n).sort = 0) (off : Int) (tw to : Tok) (k : Nat) (hk : k < 4) :
    CallOk w mean mg mb (.ref 367) [.ref tx, .int n t, .str (wordOf k) tw, .int off to] 50 1000 (fun news => TreeIn w news S) (fun news news' v => news' = news ∧ ∃ t, v = .int (cellOne S.W lv (beside (S.W n) off k).1 (beside (S.W n) off k).2) t) := by
  match k, hk with
  | 0, _ => exact beside_left S tx hx n hn t lv hL hs0 off tw to
  | 1, _ => exact beside_right S tx hx n hn t lv hL hs0 off tw to
  | 2, _ => exact beside_above S tx hx n hn t lv hL hs0 off tw to
  | 3, _ => exact beside_below S tx hx n hn t lv hL hs0 off tw to
end
section
theorem fresh_M4 : True := by
  w_top off
  k_with_none
  k_with "w k_mem" => (with_unfolding_all refine memIn ?_; ktr_member)
  k_with "w units_room" => ktr_units
  k_with "w k_room" => ktr_room
  k_with "zT" => first | assumption | ((refine TreeIn.mono (by assumption) ?_); repeat (first | exact sub_nil | refine sub_tail ?_))
  k_with "zn" => first | assumption | exact .head _ | exact .tail _ (by assumption)
  k_with "zA" => first | k_extra "zx" | exact upd_ne _ _ (by first | assumption | exact Ne.symm (by assumption))
  k_with "zx" => first | with_reducible rfl | assumption
  k_with "zP" => exact ⟨by k_asm, by k_asm, by k_asm, by k_extra "zT", by k_extra "zn", by k_extra "zA"⟩
  k_with "zQ" => exact ⟨by k_asm, by k_asm, by k_asm, by k_extra "zT", by k_extra "zx", by k_extra "zx"⟩
  k_with "zX" => exact ⟨by k_asm, by k_asm, by k_asm, by k_extra "zT", by k_extra "zx"⟩
  k_with "zC" => exact ⟨by k_asm, by k_asm, by k_asm, by k_asm, by k_asm⟩
  k_with "w ktr_room" => first | exact room1 (by assumption) rfl | exact room0 (by assumption) rfl | exact room2 (by assumption) rfl | ((simp +zetaDelta only [depth_under_make, depth_under_kw, depth_in1, depth_deeper, depth_caller, recursionLimit] at *); omega)
  k_with "w ktr_units" => first | exact room0 (by assumption) rfl | exact room1 (by assumption) rfl | (have zcL := cLine_is; (simp +zetaDelta only [units_in1, units_deeper, Around.mark_units, units_caller] at *); omega)
  k_with "zL" => ((try simp only [List.length_reverse, List.length_map, List.length_append, List.length_cons, List.length_nil]); omega)
  k_with "w call builtin:list.pop" => (k_here; k_dflt (refine pop_last (by k_asm) (by k_asm) (by k_upd) (by first | omega | assumption) ?_); intro _ _ _; (try k_sweep))
  k_with "w call builtin:list.extend" => (k_here; (with_reducible show wpAny _ _ (call (Value.builtin _) [Value.ref _, Value.ref _]) _ _ _); k_dflt (refine ext_ints (by k_asm) (by k_asm) (by k_mem) (by k_updF) (by l_ints) (by k_extra "zL") ?_); intro _ _ _ zN; (try dsimp only at zN); (try k_sweep))
  k_with "w setAttr ref" => (k_here; k_dflt (refine set_s (by k_asm) (by k_asm) (by k_asm) (by k_inst) (by rfl) (by k_is) (by k_is) (by k_is) (by k_is) (by k_get) (by k_put) (by k_updF) (by exact Nat.le_of_ble_eq_true rfl) ?_; k_whole); intro _ _ _ _ _; (try k_sweep))
  k_with "w call builtin:list.append" => (k_here; (with_reducible show wpAny _ _ (call (Value.builtin _) [Value.ref _, _]) _ _ _); k_dflt (refine app_any (by k_asm) (by k_asm) (by k_upd) (by first | omega | k_extra "zL") ?_); intro _ _ zN; (try dsimp only at zN); (try k_sweep))
  k_with "w execs cons" => (k_here; first | (refine execs_shut (s := ‹Shared›) ?_; intro _ _ _) | (refine execs_lit ?_; intro _ _ _) | (refine execs_shut0 ?_; intro _ _))
  k_with "w SPost" => first | refine spost_next (by assumption) ?_ | refine spost_ret (by assumption) ?_ | refine spost_cont (by assumption) ?_ | refine spost_brk (by assumption) ?_
  k_with "w CPost" => (refine cpost_of (by assumption) ?_)
  k_with "w WPost" => (dsimp only [WPost])
  k_with "w ksw_same" => (intro zz z3; (simp only [List.contains_cons, List.contains_nil, Bool.or_false, Bool.or_eq_false_iff, beq_eq_false_iff_ne, ne_eq] at z3); first | (simp [z3]; done) | (simp +zetaDelta [z3]; done))
  k_with "w FPost" => (dsimp only [FPost])
  k_with "w execs nil" => with_reducible refine wpAny_execs_nil ?_
  k_with "w call builtin:len" => (k_here; (with_reducible show wpAny _ _ (call (Value.builtin "len") [Value.ref _]) _ _ _); (refine len_ints (by k_asm) (by k_dflt k_mem) (by with_reducible assumption) (by k_extra "zL") ?_); (try simp only [List.length_map]))
  k_with "w eval Dict" => (k_here; k_dflt (refine kdn_str (by rfl) (by k_asm) (by first | k_asm | exact News.nil) (by exact Top.nolimit (by k_asm)) (by rfl) (by rfl) (by exact List.cons_ne_nil _ _) (by exact Nat.le_of_ble_eq_true rfl) ?_); intro zd zh zo zF zN zl zlo zhd; (try k_lt zl))
  k_with "w eval Constant int" => (with_reducible refine const_int_s ?_; intro _)
  k_with "w eval Constant str" => (with_reducible refine const_str_s ?_; intro _)
  k_with "w binaryOp Add int int" => (with_reducible refine add_int_s ?_; intro _)
  k_with "w binaryOp Sub int int" => (with_reducible refine sub_int_s ?_; intro _)
  k_with "w storeName" => (k_here; k_dflt (refine store_s (by k_asm) (by k_asm) ?_ rfl rfl; k_whole); intro _ _ _ _ _; (try k_sweep))
  k_with "w newTuple" => (k_here; kup_bare; k_dflt (refine tuple_s (by k_asm) (by k_asm) ?_ (by kmk_size)); intro _ _ _ _ zl; (try k_lt zl); (try k_sweep))
  k_with "w ktr_enter" => first | (refine enter_s (by k_extra "zC") rfl rfl (by first | assumption | exact rfl) (by k_is) (by k_is) (by ktr_room) (by first | exact BindsTo.of_eq rfl | exact binds_K (by k_in) rfl (by k_is) rfl rfl rfl) (by exact locs rfl) (by rfl) ?_ (by rfl) (by rfl) (by rfl) (by decide); k_whole; intro _ _ _ _ _ _ _ _ _ _ _ _; (try dsimp only); (try k_fold)) | (refine enterC_s (by k_extra "zC") rfl rfl (by first | assumption | exact rfl) (by k_is) (by k_is) (by ktr_room) (by first | exact BindsTo.of_eq rfl | exact binds_K (by k_in) rfl (by k_is) rfl rfl rfl) (by rfl) (by decide +kernel) ?_ (by rfl) (by rfl) (by rfl); k_whole; intro _ _ _ _ _ _ _ _ _ zN zY _ _ _ zl; (try k_lt zl); k_cells zY; (try simp only [List.cons_append, List.nil_append] at zN); (try dsimp only); (try k_fold))
  k_with "w getAttr ref" => (k_here; (with_reducible show wpAny _ _ (getAttr (Value.ref (AD.x (TS.A _ _))) _ _) _ _ _); first | ((with_reducible (first | apply rs_number | apply rs_sort | apply rs_parent | apply rs_left | apply rs_top | apply rs_width | apply rs_height)); (next => k_extra "zP"); intro _ _) | ((with_reducible (apply rs_children)); (next => k_extra "zP"); intro _) | ((with_reducible (first | apply rs_buffer | apply rs_start | apply rs_point | apply rs_hscroll)); (next => k_extra "zP"); intro _ _ _) | ((with_reducible (apply rs_earlier)); (next => k_extra "zP"); intro _ _ _ _))
  k_with "w getAttr ref" => (k_here; (with_reducible show wpAny _ _ (getAttr (Value.ref (TS.x _)) _ _) _ _ _); first | ((with_reducible (apply rs_t_windows)); (next => k_extra "zQ"); intro _) | ((with_reducible (first | apply rs_t_root | apply rs_t_selected | apply rs_t_last | apply rs_t_least_width | apply rs_t_least_height)); (next => k_extra "zQ"); intro _ _) | ((with_reducible (apply rs_t_clock)); (next => k_extra "zQ"); intro _ _ _))
  k_with "w getMethod ref" => (k_here; (with_reducible show wpAny _ _ (getMethod (Value.ref (AD.x (TS.A _ _))) _ _) _ _ _); ((with_reducible (first | apply ms_size | apply ms_set_size | apply ms_place | apply ms_shown | apply ms_show)); (next => k_extra "zP")))
  k_with "w getMethod ref" => (k_here; (with_reducible show wpAny _ _ (getMethod (Value.ref (TS.x _)) _ _) _ _ _); ((with_reducible (first | apply ms_t_window | apply ms_t_leaf | apply ms_t_touch | apply ms_t_fresh | apply ms_t_select | apply ms_t_least_leaf)); (next => k_extra "zQ")))
  k_with "w k_all" => first | assumption | exact all_succ (by assumption) | exact all_succ2 (by assumption)
  k_with "w subscriptTail" => (k_here; (with_reducible apply it_tail); (next => k_asm); (next => k_extra "zT"); rotate_left; (next => with_unfolding_all rfl))
  k_with "w getItem ref int" => (k_here; (with_reducible apply it_get); (next => k_asm); (next => k_extra "zT"); (next => k_extra "zn"))
  k_with "w getMethod ref" => (k_here; (with_reducible apply it_getm); (next => k_asm); (next => k_extra "zT"))
  k_with "w call builtin:dict.get" => (k_here; (with_reducible apply it_get2); (next => k_asm); (next => k_extra "zT"); (next => k_extra "zn"))
  k_with "w setAttr ref" => (k_here; (with_reducible show wpAny _ _ (setAttr (Value.ref (AD.x (TS.A _ _))) _ (Value.int _ _)) _ _ _); ((with_reducible (first | apply ws_parent | apply ws_left | apply ws_top | apply ws_width | apply ws_height | apply ws_buffer | apply ws_start | apply ws_point | apply ws_hscroll | apply ws_use_time)); (next => k_extra "zP"); intro _ _ _ _ _ _; (try k_sweep)))
  k_with "w setAttr ref" => (k_here; (with_reducible show wpAny _ _ (setAttr (Value.ref (TS.x _)) _ (Value.int _ _)) _ _ _); ((with_reducible (first | apply ws_t_last | apply ws_t_clock | apply ws_t_root | apply ws_t_selected)); (next => k_extra "zX"); intro _ _ _ _ _ _; (try k_sweep)))
  k_with "w exec Raise some none" => (first | (exfalso; omega) | (k_here; (with_reducible show wpAny _ _ (exec (Stmt.Raise (some (Expr.Call (Expr.Name (Str.ofString "LispSignal") _) _ _ _)) none _) _) _ _ _); k_dflt (refine raise_K rfl ?_)))
  k_with "w call ref" => (k_here; k_dflt (refine exc_call (by k_asm) (by k_asm) (by k_asm) ?_); intro _ _ _ _ _ _; refine wpAny_call ?_; k_dflt ktr_enter)
  k_with "w setAttr ref" => (k_here; (with_reducible show wpAny _ _ (setAttr (Value.ref _) (Str.ofString "symbol") _) _ _ _); k_dflt (refine exc_store0 (by k_asm) (by k_asm) (by k_asm) (by assumption) (by exact (sig_facts _).2.2.2.1) (by exact lk_exc _ (.inl rfl)) ?_); intro _ _ _ _ _ _ _ _ _)
  k_with "w setAttr ref" => (k_here; (with_reducible show wpAny _ _ (setAttr (Value.ref _) (Str.ofString "data") _) _ _ _); k_dflt (refine exc_store1 (by k_asm) (by k_asm) (by k_asm) (by assumption) (by assumption) (by assumption) (by assumption) (by exact (sig_facts _).2.2.2.2.1) (by exact lk_exc _ (.inr rfl)) ?_ (by exact Within.cons _ _ Within.nil) (by (rw [sizeLine_eq]; decide))); intro _ _ _ _ _ _)
  k_with "w RaiseK" => (k_here; k_dflt (refine raiseK_intro (by k_asm) (by k_asm) (by k_asm) (by k_mem) ?_))
  k_with "w And" => ((with_reducible show Value.none = Value.none ∧ _); refine ⟨rfl, ?_⟩)
  k_with "zh" => first | exact rfl | assumption
  k_with "zp" => first | k_extra "zT" | exact trivial
  trivial
theorem along_ok {w : World} {mean : ExcName → Option Value} {mg mb : Str → Option Value} (so : Int) (t : Tok) :
    CallOk w mean mg mb (.ref 175) [.int so t] 5 100 (fun _ => True) (fun news news' v => news' = news ∧ ∃ t, v = .int (alongI so) t) := by
  unfold CallOk
  k_fill
  intro dp un gd cn cs a ccd cl outer A₀ base h₀ L m news s Q E B F X N Tp hk hT hd hu hret
  refine wpAny_call ?_
  k_dflt ktr_enter
  k_steps
  all_goals exact hret _ _ _ _ (by assumption) (by assumption) ⟨rfl, ktn_int (by unfold alongI; simp_all)⟩

theorem sort_along_ok {w : World} {mean : ExcName → Option Value} {mg mb : Str → Option Value} (ax : Int) (t : Tok) :
    CallOk w mean mg mb (.ref 182) [.int ax t] 5 100 (fun _ => True) (fun news news' v => news' = news ∧ ∃ t, v = .int (sortI ax) t) := by
  unfold CallOk
  k_fill
  intro dp un gd cn cs a ccd cl outer A₀ base h₀ L m news s Q E B F X N Tp hk hT hd hu hret
  refine wpAny_call ?_
  k_dflt ktr_enter
  k_steps
  all_goals exact hret _ _ _ _ (by assumption) (by assumption) ⟨rfl, ktn_int (by unfold sortI; simp_all)⟩

theorem least_leaf_ok {w : World} {mean : ExcName → Option Value} {mg mb : Str → Option Value} (S : TS) (tx : Addr) (hx : S.x = tx)(ax : Int) (t : Tok) :
    CallOk w mean mg mb (.ref 154) [.ref tx, .int ax t] 5 100 (fun news => TreeIn w news S) (fun news news' v => news' = news ∧ ∃ t, v = .int (leastI ax) t) := by
  subst hx
  unfold CallOk
  k_fill
  intro dp un gd cn cs a ccd cl outer A₀ base h₀ L m news s Q E B F X N Tp hk hT hd hu hret
  refine wpAny_call ?_
  k_dflt ktr_enter
  k_steps
  all_goals exact hret _ _ _ _ (by assumption) (by assumption) ⟨rfl, ktn_int (by unfold leastI; simp_all)⟩

theorem size_ok {w : World} {mean : ExcName → Option Value} {mg mb : Str → Option Value} (S : TS) (n : Int) (hn : n ∈ S.dom) (wx : Addr) (hw : (S.A n).x = wx)(ax : Int) (t : Tok) :
    CallOk w mean mg mb (.ref 62) [.ref wx, .int ax t] 5 100 (fun news => TreeIn w news S) (fun news news' v => news' = news ∧ ∃ t, v = .int (sizeI ax (S.W n)) t) := by
  subst hw
  unfold CallOk
  k_fill
  intro dp un gd cn cs a ccd cl outer A₀ base h₀ L m news s Q E B F X N Tp hk hT hd hu hret
  refine wpAny_call ?_
  k_dflt ktr_enter
  k_steps
  all_goals exact hret _ _ _ _ (by assumption) (by assumption) ⟨rfl, ktn_int (by unfold sizeI; simp_all)⟩

theorem set_size_ok {w : World} {mean : ExcName → Option Value} {mg mb : Str → Option Value} (S : TS) (n : Int) (hn : n ∈ S.dom) (wx : Addr) (hw : (S.A n).x = wx)(ax i : Int) (t ti : Tok) :
    CallOk w mean mg mb (.ref 69) [.ref wx, .int ax t, .int i ti] 5 100 (fun news => TreeIn w news S) (fun news news' v => TreeIn w news' { S with W := upd S.W n (setSizeI ax i (S.W n)) } ∧ v = .none) := by
  subst hw
  unfold CallOk
  k_fill
  intro dp un gd cn cs a ccd cl outer A₀ base h₀ L m news s Q E B F X N Tp hk hT hd hu hret
  refine wpAny_call ?_
  k_dflt ktr_enter
  k_steps
  all_goals exact hret _ _ _ _ (by assumption) (by assumption) ⟨by unfold setSizeI; simp_all, rfl⟩
end
section
theorem fresh_M5 : True := by
  w_top off
  k_with_none
  k_with "w k_mem" => (with_unfolding_all refine memIn ?_; ktr_member)
  k_with "w units_room" => ktr_units
  k_with "w k_room" => ktr_room
  k_with "zT" => first | assumption | ((refine TreeIn.mono (by assumption) ?_); repeat (first | exact sub_nil | refine sub_tail ?_))
  k_with "zn" => first | assumption | exact .head _ | exact .tail _ (by assumption)
  k_with "zA" => first | k_extra "zx" | exact upd_ne _ _ (by first | assumption | exact Ne.symm (by assumption))
  k_with "zx" => first | with_reducible rfl | assumption
  k_with "zP" => exact ⟨by k_asm, by k_asm, by k_asm, by k_extra "zT", by k_extra "zn", by k_extra "zA"⟩
  k_with "zQ" => exact ⟨by k_asm, by k_asm, by k_asm, by k_extra "zT", by k_extra "zx", by k_extra "zx"⟩
  k_with "zX" => exact ⟨by k_asm, by k_asm, by k_asm, by k_extra "zT", by k_extra "zx"⟩
  k_with "zC" => exact ⟨by k_asm, by k_asm, by k_asm, by k_asm, by k_asm⟩
  k_with "w ktr_room" => first | exact room1 (by assumption) rfl | exact room0 (by assumption) rfl | exact room2 (by assumption) rfl | ((simp +zetaDelta only [depth_under_make, depth_under_kw, depth_in1, depth_deeper, depth_caller, recursionLimit] at *); omega)
  k_with "w ktr_units" => first | exact room0 (by assumption) rfl | exact room1 (by assumption) rfl | (have zcL := cLine_is; (simp +zetaDelta only [units_in1, units_deeper, Around.mark_units, units_caller] at *); omega)
  k_with "zL" => ((try simp only [List.length_reverse, List.length_map, List.length_append, List.length_cons, List.length_nil]); omega)
  k_with "w call builtin:list.pop" => (k_here; k_dflt (refine pop_last (by k_asm) (by k_asm) (by k_upd) (by first | omega | assumption) ?_); intro _ _ _; (try k_sweep))
  k_with "w call builtin:list.extend" => (k_here; (with_reducible show wpAny _ _ (call (Value.builtin _) [Value.ref _, Value.ref _]) _ _ _); k_dflt (refine ext_ints (by k_asm) (by k_asm) (by k_mem) (by k_updF) (by l_ints) (by k_extra "zL") ?_); intro _ _ _ zN; (try dsimp only at zN); (try k_sweep))
  k_with "w setAttr ref" => (k_here; k_dflt (refine set_s (by k_asm) (by k_asm) (by k_asm) (by k_inst) (by rfl) (by k_is) (by k_is) (by k_is) (by k_is) (by k_get) (by k_put) (by k_updF) (by exact Nat.le_of_ble_eq_true rfl) ?_; k_whole); intro _ _ _ _ _; (try k_sweep))
  k_with "w call builtin:list.append" => (k_here; (with_reducible show wpAny _ _ (call (Value.builtin _) [Value.ref _, _]) _ _ _); k_dflt (refine app_any (by k_asm) (by k_asm) (by k_upd) (by first | omega | k_extra "zL") ?_); intro _ _ zN; (try dsimp only at zN); (try k_sweep))
  k_with "w execs cons" => (k_here; first | (refine execs_shut (s := ‹Shared›) ?_; intro _ _ _) | (refine execs_lit ?_; intro _ _ _) | (refine execs_shut0 ?_; intro _ _))
  k_with "w SPost" => first | refine spost_next (by assumption) ?_ | refine spost_ret (by assumption) ?_ | refine spost_cont (by assumption) ?_ | refine spost_brk (by assumption) ?_
  k_with "w CPost" => (refine cpost_of (by assumption) ?_)
  k_with "w WPost" => (dsimp only [WPost])
  k_with "w ksw_same" => (intro zz z3; (simp only [List.contains_cons, List.contains_nil, Bool.or_false, Bool.or_eq_false_iff, beq_eq_false_iff_ne, ne_eq] at z3); first | (simp [z3]; done) | (simp +zetaDelta [z3]; done))
  k_with "w FPost" => (dsimp only [FPost])
  k_with "w execs nil" => with_reducible refine wpAny_execs_nil ?_
  k_with "w call builtin:len" => (k_here; (with_reducible show wpAny _ _ (call (Value.builtin "len") [Value.ref _]) _ _ _); (refine len_ints (by k_asm) (by k_dflt k_mem) (by with_reducible assumption) (by k_extra "zL") ?_); (try simp only [List.length_map]))
  k_with "w eval Dict" => (k_here; k_dflt (refine kdn_str (by rfl) (by k_asm) (by first | k_asm | exact News.nil) (by exact Top.nolimit (by k_asm)) (by rfl) (by rfl) (by exact List.cons_ne_nil _ _) (by exact Nat.le_of_ble_eq_true rfl) ?_); intro zd zh zo zF zN zl zlo zhd; (try k_lt zl))
  k_with "w eval Constant int" => (with_reducible refine const_int_s ?_; intro _)
  k_with "w eval Constant str" => (with_reducible refine const_str_s ?_; intro _)
  k_with "w binaryOp Add int int" => (with_reducible refine add_int_s ?_; intro _)
  k_with "w binaryOp Sub int int" => (with_reducible refine sub_int_s ?_; intro _)
  k_with "w storeName" => (k_here; k_dflt (refine store_s (by k_asm) (by k_asm) ?_ rfl rfl; k_whole); intro _ _ _ _ _; (try k_sweep))
  k_with "w newTuple" => (k_here; kup_bare; k_dflt (refine tuple_s (by k_asm) (by k_asm) ?_ (by kmk_size)); intro _ _ _ _ zl; (try k_lt zl); (try k_sweep))
  k_with "w ktr_enter" => first | (refine enter_s (by k_extra "zC") rfl rfl (by first | assumption | exact rfl) (by k_is) (by k_is) (by ktr_room) (by first | exact BindsTo.of_eq rfl | exact binds_K (by k_in) rfl (by k_is) rfl rfl rfl) (by exact locs rfl) (by rfl) ?_ (by rfl) (by rfl) (by rfl) (by decide); k_whole; intro _ _ _ _ _ _ _ _ _ _ _ _; (try dsimp only); (try k_fold)) | (refine enterC_s (by k_extra "zC") rfl rfl (by first | assumption | exact rfl) (by k_is) (by k_is) (by ktr_room) (by first | exact BindsTo.of_eq rfl | exact binds_K (by k_in) rfl (by k_is) rfl rfl rfl) (by rfl) (by decide +kernel) ?_ (by rfl) (by rfl) (by rfl); k_whole; intro _ _ _ _ _ _ _ _ _ zN zY _ _ _ zl; (try k_lt zl); k_cells zY; (try simp only [List.cons_append, List.nil_append] at zN); (try dsimp only); (try k_fold))
  k_with "w getAttr ref" => (k_here; (with_reducible show wpAny _ _ (getAttr (Value.ref (AD.x (TS.A _ _))) _ _) _ _ _); first | ((with_reducible (first | apply rs_number | apply rs_sort | apply rs_parent | apply rs_left | apply rs_top | apply rs_width | apply rs_height)); (next => k_extra "zP"); intro _ _) | ((with_reducible (apply rs_children)); (next => k_extra "zP"); intro _) | ((with_reducible (first | apply rs_buffer | apply rs_start | apply rs_point | apply rs_hscroll)); (next => k_extra "zP"); intro _ _ _) | ((with_reducible (apply rs_earlier)); (next => k_extra "zP"); intro _ _ _ _))
  k_with "w getAttr ref" => (k_here; (with_reducible show wpAny _ _ (getAttr (Value.ref (TS.x _)) _ _) _ _ _); first | ((with_reducible (apply rs_t_windows)); (next => k_extra "zQ"); intro _) | ((with_reducible (first | apply rs_t_root | apply rs_t_selected | apply rs_t_last | apply rs_t_least_width | apply rs_t_least_height)); (next => k_extra "zQ"); intro _ _) | ((with_reducible (apply rs_t_clock)); (next => k_extra "zQ"); intro _ _ _))
  k_with "w getMethod ref" => (k_here; (with_reducible show wpAny _ _ (getMethod (Value.ref (AD.x (TS.A _ _))) _ _) _ _ _); ((with_reducible (first | apply ms_size | apply ms_set_size | apply ms_place | apply ms_shown | apply ms_show)); (next => k_extra "zP")))
  k_with "w getMethod ref" => (k_here; (with_reducible show wpAny _ _ (getMethod (Value.ref (TS.x _)) _ _) _ _ _); ((with_reducible (first | apply ms_t_window | apply ms_t_leaf | apply ms_t_touch | apply ms_t_fresh | apply ms_t_select | apply ms_t_least_leaf)); (next => k_extra "zQ")))
  k_with "w k_all" => first | assumption | exact all_succ (by assumption) | exact all_succ2 (by assumption)
  k_with "w subscriptTail" => (k_here; (with_reducible apply it_tail); (next => k_asm); (next => k_extra "zT"); rotate_left; (next => with_unfolding_all rfl))
  k_with "w getItem ref int" => (k_here; (with_reducible apply it_get); (next => k_asm); (next => k_extra "zT"); (next => k_extra "zn"))
  k_with "w getMethod ref" => (k_here; (with_reducible apply it_getm); (next => k_asm); (next => k_extra "zT"))
  k_with "w call builtin:dict.get" => (k_here; (with_reducible apply it_get2); (next => k_asm); (next => k_extra "zT"); (next => k_extra "zn"))
  k_with "w setAttr ref" => (k_here; (with_reducible show wpAny _ _ (setAttr (Value.ref (AD.x (TS.A _ _))) _ (Value.int _ _)) _ _ _); ((with_reducible (first | apply ws_parent | apply ws_left | apply ws_top | apply ws_width | apply ws_height | apply ws_buffer | apply ws_start | apply ws_point | apply ws_hscroll | apply ws_use_time)); (next => k_extra "zP"); intro _ _ _ _ _ _; (try k_sweep)))
  k_with "w setAttr ref" => (k_here; (with_reducible show wpAny _ _ (setAttr (Value.ref (TS.x _)) _ (Value.int _ _)) _ _ _); ((with_reducible (first | apply ws_t_last | apply ws_t_clock | apply ws_t_root | apply ws_t_selected)); (next => k_extra "zX"); intro _ _ _ _ _ _; (try k_sweep)))
  k_with "w exec Raise some none" => (first | (exfalso; omega) | (k_here; (with_reducible show wpAny _ _ (exec (Stmt.Raise (some (Expr.Call (Expr.Name (Str.ofString "LispSignal") _) _ _ _)) none _) _) _ _ _); k_dflt (refine raise_K rfl ?_)))
  k_with "w call ref" => (k_here; k_dflt (refine exc_call (by k_asm) (by k_asm) (by k_asm) ?_); intro _ _ _ _ _ _; refine wpAny_call ?_; k_dflt ktr_enter)
  k_with "w setAttr ref" => (k_here; (with_reducible show wpAny _ _ (setAttr (Value.ref _) (Str.ofString "symbol") _) _ _ _); k_dflt (refine exc_store0 (by k_asm) (by k_asm) (by k_asm) (by assumption) (by exact (sig_facts _).2.2.2.1) (by exact lk_exc _ (.inl rfl)) ?_); intro _ _ _ _ _ _ _ _ _)
  k_with "w setAttr ref" => (k_here; (with_reducible show wpAny _ _ (setAttr (Value.ref _) (Str.ofString "data") _) _ _ _); k_dflt (refine exc_store1 (by k_asm) (by k_asm) (by k_asm) (by assumption) (by assumption) (by assumption) (by assumption) (by exact (sig_facts _).2.2.2.2.1) (by exact lk_exc _ (.inr rfl)) ?_ (by exact Within.cons _ _ Within.nil) (by (rw [sizeLine_eq]; decide))); intro _ _ _ _ _ _)
  k_with "w RaiseK" => (k_here; k_dflt (refine raiseK_intro (by k_asm) (by k_asm) (by k_asm) (by k_mem) ?_))
  k_with "w And" => ((with_reducible show Value.none = Value.none ∧ _); refine ⟨rfl, ?_⟩)
  k_with "zh" => first | exact rfl | assumption
  k_with "zp" => first | k_extra "zT" | exact trivial
  trivial
theorem windows_under_ok {w : World} {mean : ExcName → Option Value} {mg mb : Str → Option Value} (S : TS) (tx : Addr) (hx : S.x = tx) (n : Int) (hn : n ∈ S.dom) (t : Tok) (hs0 : (S.W n).sort = 0) (hk0 : (S.W n).kids = []) :
    CallOk w mean mg mb (.ref 203) [.ref tx, .int n t] 10 300 (fun news => TreeIn w news S) (fun news news' v => ∃ a vs z, v = .ref a ∧ news' = (a, listOf vs.toArray z) :: news ∧ IntsAre vs [n] ∧ AllLt a news) := by
  subst hx
  unfold CallOk
  k_fill
  intro dp un gd cn cs a ccd cl outer A₀ base h₀ L m news s Q E B F X N Tp hk hT hd hu hret
  refine wpAny_call ?_
  k_dflt ktr_enter
  refine shut ?_
  intro G9 hG9
  obtain ⟨vk, nk, hc', hki⟩ := hT.wc hn
  rw [hk0] at hki
  cases hki
  refine hG9 ?_
  k_steps
  refine hret _ _ _ _ (by assumption) (News.sub (by assumption) (by kst_in)) ⟨_, [] ++ [.int n _], _, rfl, rfl, .cons _ _ .nil, by first | assumption | exact allLt_of (by assumption)⟩

theorem least_size_ok {w : World} {mean : ExcName → Option Value} {mg mb : Str → Option Value} (S : TS) (tx : Addr) (hx : S.x = tx) (n : Int) (hn : n ∈ S.dom) (t : Tok) (hs0 : (S.W n).sort = 0) (hk0 : (S.W n).kids = []) (ax : Int) (ta : Tok) :
    CallOk w mean mg mb (.ref 301) [.ref tx, .int n t, .int ax ta] 20 500 (fun news => TreeIn w news S) (fun news news' v => news' = news ∧ ∃ t, v = .int (leastI ax) t) := by
  subst hx
  unfold CallOk
  k_fill
  intro dp un gd cn cs a ccd cl outer A₀ base h₀ L m news s Q E B F X N Tp hk hT hd hu hret
  refine wpAny_call ?_
  k_dflt ktr_enter
  k_with "pyIter ref" => refine stop ?_
  k_with "exec For Name Call cons nil" =>
    k_here
    rename Fr _ _ _ _ => lF'
    with_unfolding_all refine' For_invVF lF' ?k1 ?k2 ?_
    case k1 => exact rfl
    case k2 => exact rfl
  k_with "setItem ref int int" => refine stop ?_
  k_with "call ref" =>
    first
    | (exfalso; omega)
    | (with_reducible show wpAny _ _ (call (Value.ref 203) _) _ _ _)
      ktr_call 0 (windows_under_ok S _ rfl n (by assumption) _ (by assumption) (by assumption))
      intro r' news' h' tk' F' N' P'
      obtain ⟨a', vs', z', rfl, rfl, hi', hl'⟩ := P'
      (try dsimp only)
      (try simp only [AllLt, and_true] at l9)
      (try simp only [AllLt, and_true] at hl')
      cases hi'
      cases ‹IntsAre _ []›
    | (with_reducible show wpAny _ _ (call (Value.ref 154) _) _ _ _)
      ktr_call 0 (least_leaf_ok S _ rfl ax _)
      intro r' news' h' tk' F' N' P'
      obtain ⟨rfl, tk9, rfl⟩ := P'
      (try dsimp only)
      (try simp only [AllLt, and_true] at l9)
      (try simp only [AllLt, and_true] at hl')
  k_steps
  refine go ?_
  rename Fr _ _ _ _ => lF'
  rename News _ _ _ _ => lN'
  with_unfolding_all refine' for_list (σ := Obj) (fun o => (_, listOf [Value.int n _].toArray 0) :: (a', _) :: (_, o) :: (_, _) :: news) [Str.ofString "here"] (fun i o => (i = 0 → o.IsDictOf (ik w) []) ∧ (i = 1 → ∃ tk, o.IsDictOf (ik w) (stored [] n (.int (leastI ax) tk)))) _ (by rfl) (fun _ _ _ => .head _) lF' lN' ⟨fun _ => by assumption, fun h => by cases h⟩ ?turn ?done
  case done =>
    clear lF' lN'
    intro c u h' tk' hP F' N'
    obtain ⟨tk9, hD9⟩ := hP.2 rfl
    k_steps
    k_dflt (refine' kdt_tail (knd := ik w) ?N1 ?m1 hD9 ?_ ?s1)
    case N1 => k_asm
    case m1 => k_mem
    case s1 => with_unfolding_all rfl
    k_dflt (refine' kdt_getItem (knd := ik w) (v := .int (leastI ax) tk9) ?N ?m hD9 (intKind_is _ _ _ _) ?v ?_)
    case N => k_asm
    case m => k_mem
    case v => simp [stored, valueAt]
    k_steps
    exact hret _ _ _ _ (by assumption) (News.sub (l' := news) (by assumption) (by kst_in)) ⟨rfl, ktn_int rfl⟩
  case turn =>
    clear lF' lN'
    intro i v I oi c u h' tk' hv hP hI F' N'
    have hi0 : i = 0 := by
      have := lt_of_get hv
      simpa using this
    subst hi0
    cases hv
    have hd9 := hP.1 rfl
    have hI1 := neN (hI _ (.head _))
    have hI2 := neN (hI _ (.tail _ (.head _)))
    have hI3 := neN (hI _ (.tail _ (.tail _ (.head _))))
    dsimp only at hI1 hI2 hI3
    k_steps
    refine go ?_
    k_dflt (refine' kda_set (knd := ik w) ?F ?N ?U hd9 (intKind_is _ _ _ _) ?z ?_)
    case F => k_asm
    case N => k_asm
    case U => k_updF
    case z => exact Nat.zero_le _
    intro h9 o9 F9 N9 hd8
    (try dsimp only at N9)
    k_steps
    refine fend_intro _ (by assumption) (by assumption) (.head _) (by kst_in) (List.forall_mem_cons.mpr ⟨hI1, List.forall_mem_cons.mpr ⟨hI2, List.forall_mem_cons.mpr ⟨hI3, fun p hp => hI p (.tail _ (.tail _ (.tail _ hp)))⟩⟩⟩) (by ksw_same) ⟨fun h => (by cases h), fun _ => ⟨_, hd8⟩⟩
end
section
theorem fresh_M6 : True := by
  w_top off
  k_with_none
  k_with "w k_mem" => (with_unfolding_all refine memIn ?_; ktr_member)
  k_with "w units_room" => ktr_units
  k_with "w k_room" => ktr_room
  k_with "zT" => first | assumption | ((refine TreeIn.mono (by assumption) ?_); repeat (first | exact sub_nil | refine sub_tail ?_))
  k_with "zn" => first | assumption | exact .head _ | exact .tail _ (by assumption)
  k_with "zA" => first | k_extra "zx" | exact upd_ne _ _ (by first | assumption | exact Ne.symm (by assumption))
  k_with "zx" => first | with_reducible rfl | assumption
  k_with "zP" => exact ⟨by k_asm, by k_asm, by k_asm, by k_extra "zT", by k_extra "zn", by k_extra "zA"⟩
  k_with "zQ" => exact ⟨by k_asm, by k_asm, by k_asm, by k_extra "zT", by k_extra "zx", by k_extra "zx"⟩
  k_with "zX" => exact ⟨by k_asm, by k_asm, by k_asm, by k_extra "zT", by k_extra "zx"⟩
  k_with "zC" => exact ⟨by k_asm, by k_asm, by k_asm, by k_asm, by k_asm⟩
  k_with "w ktr_room" => first | exact room1 (by assumption) rfl | exact room0 (by assumption) rfl | exact room2 (by assumption) rfl | ((simp +zetaDelta only [depth_under_make, depth_under_kw, depth_in1, depth_deeper, depth_caller, recursionLimit] at *); omega)
  k_with "w ktr_units" => first | exact room0 (by assumption) rfl | exact room1 (by assumption) rfl | (have zcL := cLine_is; (simp +zetaDelta only [units_in1, units_deeper, Around.mark_units, units_caller] at *); omega)
  k_with "zL" => ((try simp only [List.length_reverse, List.length_map, List.length_append, List.length_cons, List.length_nil]); omega)
  k_with "w call builtin:list.pop" => (k_here; k_dflt (refine pop_last (by k_asm) (by k_asm) (by k_upd) (by first | omega | assumption) ?_); intro _ _ _; (try k_sweep))
  k_with "w call builtin:list.extend" => (k_here; (with_reducible show wpAny _ _ (call (Value.builtin _) [Value.ref _, Value.ref _]) _ _ _); k_dflt (refine ext_ints (by k_asm) (by k_asm) (by k_mem) (by k_updF) (by l_ints) (by k_extra "zL") ?_); intro _ _ _ zN; (try dsimp only at zN); (try k_sweep))
  k_with "w setAttr ref" => (k_here; k_dflt (refine set_s (by k_asm) (by k_asm) (by k_asm) (by k_inst) (by rfl) (by k_is) (by k_is) (by k_is) (by k_is) (by k_get) (by k_put) (by k_updF) (by exact Nat.le_of_ble_eq_true rfl) ?_; k_whole); intro _ _ _ _ _; (try k_sweep))
  k_with "w call builtin:list.append" => (k_here; (with_reducible show wpAny _ _ (call (Value.builtin _) [Value.ref _, _]) _ _ _); k_dflt (refine app_any (by k_asm) (by k_asm) (by k_upd) (by first | omega | k_extra "zL") ?_); intro _ _ zN; (try dsimp only at zN); (try k_sweep))
  k_with "w execs cons" => (k_here; first | (refine execs_shut (s := ‹Shared›) ?_; intro _ _ _) | (refine execs_lit ?_; intro _ _ _) | (refine execs_shut0 ?_; intro _ _))
  k_with "w SPost" => first | refine spost_next (by assumption) ?_ | refine spost_ret (by assumption) ?_ | refine spost_cont (by assumption) ?_ | refine spost_brk (by assumption) ?_
  k_with "w CPost" => (refine cpost_of (by assumption) ?_)
  k_with "w WPost" => (dsimp only [WPost])
  k_with "w ksw_same" => (intro zz z3; (simp only [List.contains_cons, List.contains_nil, Bool.or_false, Bool.or_eq_false_iff, beq_eq_false_iff_ne, ne_eq] at z3); first | (simp [z3]; done) | (simp +zetaDelta [z3]; done))
  k_with "w FPost" => (dsimp only [FPost])
  k_with "w execs nil" => with_reducible refine wpAny_execs_nil ?_
  k_with "w call builtin:len" => (k_here; (with_reducible show wpAny _ _ (call (Value.builtin "len") [Value.ref _]) _ _ _); (refine len_ints (by k_asm) (by k_dflt k_mem) (by with_reducible assumption) (by k_extra "zL") ?_); (try simp only [List.length_map]))
  k_with "w eval Dict" => (k_here; k_dflt (refine kdn_str (by rfl) (by k_asm) (by first | k_asm | exact News.nil) (by exact Top.nolimit (by k_asm)) (by rfl) (by rfl) (by exact List.cons_ne_nil _ _) (by exact Nat.le_of_ble_eq_true rfl) ?_); intro zd zh zo zF zN zl zlo zhd; (try k_lt zl))
  k_with "w eval Constant int" => (with_reducible refine const_int_s ?_; intro _)
  k_with "w eval Constant str" => (with_reducible refine const_str_s ?_; intro _)
  k_with "w binaryOp Add int int" => (with_reducible refine add_int_s ?_; intro _)
  k_with "w binaryOp Sub int int" => (with_reducible refine sub_int_s ?_; intro _)
  k_with "w storeName" => (k_here; k_dflt (refine store_s (by k_asm) (by k_asm) ?_ rfl rfl; k_whole); intro _ _ _ _ _; (try k_sweep))
  k_with "w newTuple" => (k_here; kup_bare; k_dflt (refine tuple_s (by k_asm) (by k_asm) ?_ (by kmk_size)); intro _ _ _ _ zl; (try k_lt zl); (try k_sweep))
  k_with "w ktr_enter" => first | (refine enter_s (by k_extra "zC") rfl rfl (by first | assumption | exact rfl) (by k_is) (by k_is) (by ktr_room) (by first | exact BindsTo.of_eq rfl | exact binds_K (by k_in) rfl (by k_is) rfl rfl rfl) (by exact locs rfl) (by rfl) ?_ (by rfl) (by rfl) (by rfl) (by decide); k_whole; intro _ _ _ _ _ _ _ _ _ _ _ _; (try dsimp only); (try k_fold)) | (refine enterC_s (by k_extra "zC") rfl rfl (by first | assumption | exact rfl) (by k_is) (by k_is) (by ktr_room) (by first | exact BindsTo.of_eq rfl | exact binds_K (by k_in) rfl (by k_is) rfl rfl rfl) (by rfl) (by decide +kernel) ?_ (by rfl) (by rfl) (by rfl); k_whole; intro _ _ _ _ _ _ _ _ _ zN zY _ _ _ zl; (try k_lt zl); k_cells zY; (try simp only [List.cons_append, List.nil_append] at zN); (try dsimp only); (try k_fold))
  k_with "w getAttr ref" => (k_here; (with_reducible show wpAny _ _ (getAttr (Value.ref (AD.x (TS.A _ _))) _ _) _ _ _); first | ((with_reducible (first | apply rs_number | apply rs_sort | apply rs_parent | apply rs_left | apply rs_top | apply rs_width | apply rs_height)); (next => k_extra "zP"); intro _ _) | ((with_reducible (apply rs_children)); (next => k_extra "zP"); intro _) | ((with_reducible (first | apply rs_buffer | apply rs_start | apply rs_point | apply rs_hscroll)); (next => k_extra "zP"); intro _ _ _) | ((with_reducible (apply rs_earlier)); (next => k_extra "zP"); intro _ _ _ _))
  k_with "w getAttr ref" => (k_here; (with_reducible show wpAny _ _ (getAttr (Value.ref (TS.x _)) _ _) _ _ _); first | ((with_reducible (apply rs_t_windows)); (next => k_extra "zQ"); intro _) | ((with_reducible (first | apply rs_t_root | apply rs_t_selected | apply rs_t_last | apply rs_t_least_width | apply rs_t_least_height)); (next => k_extra "zQ"); intro _ _) | ((with_reducible (apply rs_t_clock)); (next => k_extra "zQ"); intro _ _ _))
  k_with "w getMethod ref" => (k_here; (with_reducible show wpAny _ _ (getMethod (Value.ref (AD.x (TS.A _ _))) _ _) _ _ _); ((with_reducible (first | apply ms_size | apply ms_set_size | apply ms_place | apply ms_shown | apply ms_show)); (next => k_extra "zP")))
  k_with "w getMethod ref" => (k_here; (with_reducible show wpAny _ _ (getMethod (Value.ref (TS.x _)) _ _) _ _ _); ((with_reducible (first | apply ms_t_window | apply ms_t_leaf | apply ms_t_touch | apply ms_t_fresh | apply ms_t_select | apply ms_t_least_leaf)); (next => k_extra "zQ")))
  k_with "w k_all" => first | assumption | exact all_succ (by assumption) | exact all_succ2 (by assumption)
  k_with "w subscriptTail" => (k_here; (with_reducible apply it_tail); (next => k_asm); (next => k_extra "zT"); rotate_left; (next => with_unfolding_all rfl))
  k_with "w getItem ref int" => (k_here; (with_reducible apply it_get); (next => k_asm); (next => k_extra "zT"); (next => k_extra "zn"))
  k_with "w getMethod ref" => (k_here; (with_reducible apply it_getm); (next => k_asm); (next => k_extra "zT"))
  k_with "w call builtin:dict.get" => (k_here; (with_reducible apply it_get2); (next => k_asm); (next => k_extra "zT"); (next => k_extra "zn"))
  k_with "w setAttr ref" => (k_here; (with_reducible show wpAny _ _ (setAttr (Value.ref (AD.x (TS.A _ _))) _ (Value.int _ _)) _ _ _); ((with_reducible (first | apply ws_parent | apply ws_left | apply ws_top | apply ws_width | apply ws_height | apply ws_buffer | apply ws_start | apply ws_point | apply ws_hscroll | apply ws_use_time)); (next => k_extra "zP"); intro _ _ _ _ _ _; (try k_sweep)))
  k_with "w setAttr ref" => (k_here; (with_reducible show wpAny _ _ (setAttr (Value.ref (TS.x _)) _ (Value.int _ _)) _ _ _); ((with_reducible (first | apply ws_t_last | apply ws_t_clock | apply ws_t_root | apply ws_t_selected)); (next => k_extra "zX"); intro _ _ _ _ _ _; (try k_sweep)))
  k_with "w exec Raise some none" => (first | (exfalso; omega) | (k_here; (with_reducible show wpAny _ _ (exec (Stmt.Raise (some (Expr.Call (Expr.Name (Str.ofString "LispSignal") _) _ _ _)) none _) _) _ _ _); k_dflt (refine raise_K rfl ?_)))
  k_with "w call ref" => (k_here; k_dflt (refine exc_call (by k_asm) (by k_asm) (by k_asm) ?_); intro _ _ _ _ _ _; refine wpAny_call ?_; k_dflt ktr_enter)
  k_with "w setAttr ref" => (k_here; (with_reducible show wpAny _ _ (setAttr (Value.ref _) (Str.ofString "symbol") _) _ _ _); k_dflt (refine exc_store0 (by k_asm) (by k_asm) (by k_asm) (by assumption) (by exact (sig_facts _).2.2.2.1) (by exact lk_exc _ (.inl rfl)) ?_); intro _ _ _ _ _ _ _ _ _)
  k_with "w setAttr ref" => (k_here; (with_reducible show wpAny _ _ (setAttr (Value.ref _) (Str.ofString "data") _) _ _ _); k_dflt (refine exc_store1 (by k_asm) (by k_asm) (by k_asm) (by assumption) (by assumption) (by assumption) (by assumption) (by exact (sig_facts _).2.2.2.2.1) (by exact lk_exc _ (.inr rfl)) ?_ (by exact Within.cons _ _ Within.nil) (by (rw [sizeLine_eq]; decide))); intro _ _ _ _ _ _)
  k_with "w RaiseK" => (k_here; k_dflt (refine raiseK_intro (by k_asm) (by k_asm) (by k_asm) (by k_mem) ?_))
  k_with "w And" => ((with_reducible show Value.none = Value.none ∧ _); refine ⟨rfl, ?_⟩)
  k_with "zh" => first | exact rfl | assumption
  k_with "zp" => first | k_extra "zT" | exact trivial
  trivial
def halfI (a : Int) (r : WR) : Int := Int.fdiv (sizeI a r) 2

theorem split_parts_ok {w : World} {mean : ExcName → Option Value} {mg mb : Str → Option Value} (S : TS) (tx : Addr) (hx : S.x = tx) (n : Int) (hn : n ∈ S.dom) (t : Tok) (hs0 : (S.W n).sort = 0) (hk0 : (S.W n).kids = []) (ax : Int) (ta : Tok) (h1 : leastI ax ≤ sizeI ax (S.W n) - halfI ax (S.W n)) (h2 : leastI ax ≤ halfI ax (S.W n)) :
    CallOk w mean mg mb (.ref 325) [.ref tx, .int n t, .none, .int ax ta] 40 1000 (fun news => TreeIn w news S) (fun news news' v => ∃ a t1 t2, v = .ref a ∧ news' = (a, tupleOf [.int (sizeI ax (S.W n) - halfI ax (S.W n)) t1, .int (halfI ax (S.W n)) t2]) :: news ∧ AllLt a news) := by
  subst hx
  unfold CallOk
  k_fill
  intro dp un gd cn cs a ccd cl outer A₀ base h₀ L m news s Q E B F X N Tp hk hT hd hu hret
  refine wpAny_call ?_
  k_dflt ktr_enter
  k_with "exec Raise some none" => (exfalso; omega)
  k_with "call ref" =>
    first
    | (with_reducible show wpAny _ _ (call (Value.ref 126) _) _ _ _)
      ktr_call 0 (window_ok S _ rfl n (by assumption) _)
      intro r' news' h' tk' F' N' P'
      obtain ⟨rfl, rfl⟩ := P'
      (try dsimp only)
      (try simp only [AllLt, and_true] at l9)
      (try simp only [AllLt, and_true] at hl')
    | (with_reducible show wpAny _ _ (call (Value.ref 62) _) _ _ _)
      ktr_call 0 (size_ok S n (by assumption) _ rfl ax _)
      intro r' news' h' tk' F' N' P'
      obtain ⟨rfl, tk9, rfl⟩ := P'
      (try dsimp only)
      (try simp only [AllLt, and_true] at l9)
      (try simp only [AllLt, and_true] at hl')
    | (with_reducible show wpAny _ _ (call (Value.ref 301) _) _ _ _)
      ktr_call 0 (least_size_ok S _ rfl n (by assumption) _ (by assumption) (by assumption) ax _)
      intro r' news' h' tk' F' N' P'
      obtain ⟨rfl, tk8, rfl⟩ := P'
      (try dsimp only)
      (try simp only [AllLt, and_true] at l9)
      (try simp only [AllLt, and_true] at hl')
    | (with_reducible show wpAny _ _ (call (Value.ref 154) _) _ _ _)
      ktr_call 0 (least_leaf_ok S _ rfl ax _)
      intro r' news' h' tk' F' N' P'
      obtain ⟨rfl, tk7, rfl⟩ := P'
      (try dsimp only)
      (try simp only [AllLt, and_true] at l9)
      (try simp only [AllLt, and_true] at hl')
  k_steps
  exact hret _ _ _ _ (by assumption) (by assumption) ⟨_, _, _, rfl, rfl, allLt_of (by assumption)⟩

theorem split_parts_raises {w : World} {mean : ExcName → Option Value} {mg mb : Str → Option Value} (S : TS) (tx : Addr) (hx : S.x = tx) (n : Int) (hn : n ∈ S.dom) (t : Tok) (hs0 : (S.W n).sort = 0) (hk0 : (S.W n).kids = []) (ax : Int) (ta : Tok) (h1 : ¬ (leastI ax ≤ sizeI ax (S.W n) - halfI ax (S.W n) ∧ leastI ax ≤ halfI ax (S.W n))) :
    RaisesOk w mean mg mb (.ref 325) [.ref tx, .int n t, .none, .int ax ta] 40 1000 (fun news => TreeIn w news S) (Str.ofString "error") := by
  subst hx
  unfold halfI at h1
  unfold RaisesOk
  k_fill
  intro dp un gd cn cs a ccd cl outer A₀ base h₀ L m news s Q E B F X N Tp hk hT hd hu hexc
  refine wpAny_call ?_
  k_dflt ktr_enter
  k_with "call ref" =>
    first
    | (with_reducible show wpAny _ _ (call (Value.ref 126) _) _ _ _)
      ktr_call 0 (window_ok S _ rfl n (by assumption) _)
      intro r' news' h' tk' F' N' P'
      obtain ⟨rfl, rfl⟩ := P'
      (try dsimp only)
      (try simp only [AllLt, and_true] at l9)
      (try simp only [AllLt, and_true] at hl')
    | (with_reducible show wpAny _ _ (call (Value.ref 62) _) _ _ _)
      ktr_call 0 (size_ok S n (by assumption) _ rfl ax _)
      intro r' news' h' tk' F' N' P'
      obtain ⟨rfl, tk9, rfl⟩ := P'
      (try dsimp only)
      (try simp only [AllLt, and_true] at l9)
      (try simp only [AllLt, and_true] at hl')
    | (with_reducible show wpAny _ _ (call (Value.ref 301) _) _ _ _)
      ktr_call 0 (least_size_ok S _ rfl n (by assumption) _ (by assumption) (by assumption) ax _)
      intro r' news' h' tk' F' N' P'
      obtain ⟨rfl, tk8, rfl⟩ := P'
      (try dsimp only)
      (try simp only [AllLt, and_true] at l9)
      (try simp only [AllLt, and_true] at hl')
    | (with_reducible show wpAny _ _ (call (Value.ref 154) _) _ _ _)
      ktr_call 0 (least_leaf_ok S _ rfl ax _)
      intro r' news' h' tk' F' N' P'
      obtain ⟨rfl, tk7, rfl⟩ := P'
      (try dsimp only)
      (try simp only [AllLt, and_true] at l9)
      (try simp only [AllLt, and_true] at hl')
  k_steps
  all_goals
    rename RaisedP _ _ _ _ _ _ => lR
    rename Heap.UpToSlots _ _ => lU
    rename NsObj _ _ _ => lO
    exact hexc _ _ _ _ _ _ _ _ (by assumption) lU (lR.sub (sub_cons (.head _) (sub_tail (sub_tail sub_nil)))) lO rfl
end
section
theorem fresh_M7 : True := by
  w_top off
  k_with_none
  k_with "w k_mem" => (with_unfolding_all refine memIn ?_; ktr_member)
  k_with "w units_room" => ktr_units
  k_with "w k_room" => ktr_room
  k_with "zT" => first | assumption | ((refine TreeIn.mono (by assumption) ?_); repeat (first | exact sub_nil | refine sub_tail ?_))
  k_with "zn" => first | assumption | exact .head _ | exact .tail _ (by assumption)
  k_with "zA" => first | k_extra "zx" | exact upd_ne _ _ (by first | assumption | exact Ne.symm (by assumption))
  k_with "zx" => first | with_reducible rfl | assumption
  k_with "zP" => exact ⟨by k_asm, by k_asm, by k_asm, by k_extra "zT", by k_extra "zn", by k_extra "zA"⟩
  k_with "zQ" => exact ⟨by k_asm, by k_asm, by k_asm, by k_extra "zT", by k_extra "zx", by k_extra "zx"⟩
  k_with "zX" => exact ⟨by k_asm, by k_asm, by k_asm, by k_extra "zT", by k_extra "zx"⟩
  k_with "zC" => exact ⟨by k_asm, by k_asm, by k_asm, by k_asm, by k_asm⟩
  k_with "w ktr_room" => first | exact room1 (by assumption) rfl | exact room0 (by assumption) rfl | exact room2 (by assumption) rfl | ((simp +zetaDelta only [depth_under_make, depth_under_kw, depth_in1, depth_deeper, depth_caller, recursionLimit] at *); omega)
  k_with "w ktr_units" => first | exact room0 (by assumption) rfl | exact room1 (by assumption) rfl | (have zcL := cLine_is; (simp +zetaDelta only [units_in1, units_deeper, Around.mark_units, units_caller] at *); omega)
  k_with "zL" => ((try simp only [List.length_reverse, List.length_map, List.length_append, List.length_cons, List.length_nil]); omega)
  k_with "w call builtin:list.pop" => (k_here; k_dflt (refine pop_last (by k_asm) (by k_asm) (by k_upd) (by first | omega | assumption) ?_); intro _ _ _; (try k_sweep))
  k_with "w call builtin:list.extend" => (k_here; (with_reducible show wpAny _ _ (call (Value.builtin _) [Value.ref _, Value.ref _]) _ _ _); k_dflt (refine ext_ints (by k_asm) (by k_asm) (by k_mem) (by k_updF) (by l_ints) (by k_extra "zL") ?_); intro _ _ _ zN; (try dsimp only at zN); (try k_sweep))
  k_with "w setAttr ref" => (k_here; k_dflt (refine set_s (by k_asm) (by k_asm) (by k_asm) (by k_inst) (by rfl) (by k_is) (by k_is) (by k_is) (by k_is) (by k_get) (by k_put) (by k_updF) (by exact Nat.le_of_ble_eq_true rfl) ?_; k_whole); intro _ _ _ _ _; (try k_sweep))
  k_with "w call builtin:list.append" => (k_here; (with_reducible show wpAny _ _ (call (Value.builtin _) [Value.ref _, _]) _ _ _); k_dflt (refine app_any (by k_asm) (by k_asm) (by k_upd) (by first | omega | k_extra "zL") ?_); intro _ _ zN; (try dsimp only at zN); (try k_sweep))
  k_with "w execs cons" => (k_here; first | (refine execs_shut (s := ‹Shared›) ?_; intro _ _ _) | (refine execs_lit ?_; intro _ _ _) | (refine execs_shut0 ?_; intro _ _))
  k_with "w SPost" => first | refine spost_next (by assumption) ?_ | refine spost_ret (by assumption) ?_ | refine spost_cont (by assumption) ?_ | refine spost_brk (by assumption) ?_
  k_with "w CPost" => (refine cpost_of (by assumption) ?_)
  k_with "w WPost" => (dsimp only [WPost])
  k_with "w ksw_same" => (intro zz z3; (simp only [List.contains_cons, List.contains_nil, Bool.or_false, Bool.or_eq_false_iff, beq_eq_false_iff_ne, ne_eq] at z3); first | (simp [z3]; done) | (simp +zetaDelta [z3]; done))
  k_with "w FPost" => (dsimp only [FPost])
  k_with "w execs nil" => with_reducible refine wpAny_execs_nil ?_
  k_with "w call builtin:len" => (k_here; (with_reducible show wpAny _ _ (call (Value.builtin "len") [Value.ref _]) _ _ _); (refine len_ints (by k_asm) (by k_dflt k_mem) (by with_reducible assumption) (by k_extra "zL") ?_); (try simp only [List.length_map]))
  k_with "w eval Dict" => (k_here; k_dflt (refine kdn_str (by rfl) (by k_asm) (by first | k_asm | exact News.nil) (by exact Top.nolimit (by k_asm)) (by rfl) (by rfl) (by exact List.cons_ne_nil _ _) (by exact Nat.le_of_ble_eq_true rfl) ?_); intro zd zh zo zF zN zl zlo zhd; (try k_lt zl))
  k_with "w eval Constant int" => (with_reducible refine const_int_s ?_; intro _)
  k_with "w eval Constant str" => (with_reducible refine const_str_s ?_; intro _)
  k_with "w binaryOp Add int int" => (with_reducible refine add_int_s ?_; intro _)
  k_with "w binaryOp Sub int int" => (with_reducible refine sub_int_s ?_; intro _)
  k_with "w storeName" => (k_here; k_dflt (refine store_s (by k_asm) (by k_asm) ?_ rfl rfl; k_whole); intro _ _ _ _ _; (try k_sweep))
  k_with "w newTuple" => (k_here; kup_bare; k_dflt (refine tuple_s (by k_asm) (by k_asm) ?_ (by kmk_size)); intro _ _ _ _ zl; (try k_lt zl); (try k_sweep))
  k_with "w ktr_enter" => first | (refine enter_s (by k_extra "zC") rfl rfl (by first | assumption | exact rfl) (by k_is) (by k_is) (by ktr_room) (by first | exact BindsTo.of_eq rfl | exact binds_K (by k_in) rfl (by k_is) rfl rfl rfl) (by exact locs rfl) (by rfl) ?_ (by rfl) (by rfl) (by rfl) (by decide); k_whole; intro _ _ _ _ _ _ _ _ _ _ _ _; (try dsimp only); (try k_fold)) | (refine enterC_s (by k_extra "zC") rfl rfl (by first | assumption | exact rfl) (by k_is) (by k_is) (by ktr_room) (by first | exact BindsTo.of_eq rfl | exact binds_K (by k_in) rfl (by k_is) rfl rfl rfl) (by rfl) (by decide +kernel) ?_ (by rfl) (by rfl) (by rfl); k_whole; intro _ _ _ _ _ _ _ _ _ zN zY _ _ _ zl; (try k_lt zl); k_cells zY; (try simp only [List.cons_append, List.nil_append] at zN); (try dsimp only); (try k_fold))
  k_with "w getAttr ref" => (k_here; (with_reducible show wpAny _ _ (getAttr (Value.ref (AD.x (TS.A _ _))) _ _) _ _ _); first | ((with_reducible (first | apply rs_number | apply rs_sort | apply rs_parent | apply rs_left | apply rs_top | apply rs_width | apply rs_height)); (next => k_extra "zP"); intro _ _) | ((with_reducible (apply rs_children)); (next => k_extra "zP"); intro _) | ((with_reducible (first | apply rs_buffer | apply rs_start | apply rs_point | apply rs_hscroll)); (next => k_extra "zP"); intro _ _ _) | ((with_reducible (apply rs_earlier)); (next => k_extra "zP"); intro _ _ _ _))
  k_with "w getAttr ref" => (k_here; (with_reducible show wpAny _ _ (getAttr (Value.ref (TS.x _)) _ _) _ _ _); first | ((with_reducible (apply rs_t_windows)); (next => k_extra "zQ"); intro _) | ((with_reducible (first | apply rs_t_root | apply rs_t_selected | apply rs_t_last | apply rs_t_least_width | apply rs_t_least_height)); (next => k_extra "zQ"); intro _ _) | ((with_reducible (apply rs_t_clock)); (next => k_extra "zQ"); intro _ _ _))
  k_with "w getMethod ref" => (k_here; (with_reducible show wpAny _ _ (getMethod (Value.ref (AD.x (TS.A _ _))) _ _) _ _ _); ((with_reducible (first | apply ms_size | apply ms_set_size | apply ms_place | apply ms_shown | apply ms_show)); (next => k_extra "zP")))
  k_with "w getMethod ref" => (k_here; (with_reducible show wpAny _ _ (getMethod (Value.ref (TS.x _)) _ _) _ _ _); ((with_reducible (first | apply ms_t_window | apply ms_t_leaf | apply ms_t_touch | apply ms_t_fresh | apply ms_t_select | apply ms_t_least_leaf)); (next => k_extra "zQ")))
  k_with "w k_all" => first | assumption | exact all_succ (by assumption) | exact all_succ2 (by assumption)
  k_with "w subscriptTail" => (k_here; (with_reducible apply it_tail); (next => k_asm); (next => k_extra "zT"); rotate_left; (next => with_unfolding_all rfl))
  k_with "w getItem ref int" => (k_here; (with_reducible apply it_get); (next => k_asm); (next => k_extra "zT"); (next => k_extra "zn"))
  k_with "w getMethod ref" => (k_here; (with_reducible apply it_getm); (next => k_asm); (next => k_extra "zT"))
  k_with "w call builtin:dict.get" => (k_here; (with_reducible apply it_get2); (next => k_asm); (next => k_extra "zT"); (next => k_extra "zn"))
  k_with "w setAttr ref" => (k_here; (with_reducible show wpAny _ _ (setAttr (Value.ref (AD.x (TS.A _ _))) _ (Value.int _ _)) _ _ _); ((with_reducible (first | apply ws_parent | apply ws_left | apply ws_top | apply ws_width | apply ws_height | apply ws_buffer | apply ws_start | apply ws_point | apply ws_hscroll | apply ws_use_time)); (next => k_extra "zP"); intro _ _ _ _ _ _; (try k_sweep)))
  k_with "w setAttr ref" => (k_here; (with_reducible show wpAny _ _ (setAttr (Value.ref (TS.x _)) _ (Value.int _ _)) _ _ _); ((with_reducible (first | apply ws_t_last | apply ws_t_clock | apply ws_t_root | apply ws_t_selected)); (next => k_extra "zX"); intro _ _ _ _ _ _; (try k_sweep)))
  k_with "w exec Raise some none" => (first | (exfalso; omega) | (k_here; (with_reducible show wpAny _ _ (exec (Stmt.Raise (some (Expr.Call (Expr.Name (Str.ofString "LispSignal") _) _ _ _)) none _) _) _ _ _); k_dflt (refine raise_K rfl ?_)))
  k_with "w call ref" => (k_here; k_dflt (refine exc_call (by k_asm) (by k_asm) (by k_asm) ?_); intro _ _ _ _ _ _; refine wpAny_call ?_; k_dflt ktr_enter)
  k_with "w setAttr ref" => (k_here; (with_reducible show wpAny _ _ (setAttr (Value.ref _) (Str.ofString "symbol") _) _ _ _); k_dflt (refine exc_store0 (by k_asm) (by k_asm) (by k_asm) (by assumption) (by exact (sig_facts _).2.2.2.1) (by exact lk_exc _ (.inl rfl)) ?_); intro _ _ _ _ _ _ _ _ _)
  k_with "w setAttr ref" => (k_here; (with_reducible show wpAny _ _ (setAttr (Value.ref _) (Str.ofString "data") _) _ _ _); k_dflt (refine exc_store1 (by k_asm) (by k_asm) (by k_asm) (by assumption) (by assumption) (by assumption) (by assumption) (by exact (sig_facts _).2.2.2.2.1) (by exact lk_exc _ (.inr rfl)) ?_ (by exact Within.cons _ _ Within.nil) (by (rw [sizeLine_eq]; decide))); intro _ _ _ _ _ _)
  k_with "w RaiseK" => (k_here; k_dflt (refine raiseK_intro (by k_asm) (by k_asm) (by k_asm) (by k_mem) ?_))
  k_with "w And" => ((with_reducible show Value.none = Value.none ∧ _); refine ⟨rfl, ?_⟩)
  k_with "zh" => first | exact rfl | assumption
  k_with "zp" => first | k_extra "zT" | exact trivial
  trivial
theorem touch_ok {w : World} {mean : ExcName → Option Value} {mg mb : Str → Option Value} (S : TS) (tx : Addr) (hx : S.x = tx) (n : Int) (hn : n ∈ S.dom) (t : Tok) :
    CallOk w mean mg mb (.ref 140) [.ref tx, .int n t] 5 100 (fun news => TreeIn w news S) (fun news news' v => TreeIn w news' S ∧ v = .none) := by
  subst hx
  unfold CallOk
  k_fill
  intro dp un gd cn cs a ccd cl outer A₀ base h₀ L m news s Q E B F X N Tp hk hT hd hu hret
  refine wpAny_call ?_
  k_dflt ktr_enter
  k_steps
  exact hret _ _ _ _ (by assumption) (by assumption) ⟨by assumption, rfl⟩

theorem select_ok {w : World} {mean : ExcName → Option Value} {mg mb : Str → Option Value} (S : TS) (tx : Addr) (hx : S.x = tx) (n : Int) (hn : n ∈ S.dom) (t : Tok) (hs0 : (S.W n).sort = 0) :
    CallOk w mean mg mb (.ref 147) [.ref tx, .int n t] 20 400 (fun news => TreeIn w news S) (fun news news' v => TreeIn w news' { S with selected := n } ∧ v = .none) := by
  subst hx
  unfold CallOk
  k_fill
  intro dp un gd cn cs a ccd cl outer A₀ base h₀ L m news s Q E B F X N Tp hk hT hd hu hret
  refine wpAny_call ?_
  k_dflt ktr_enter
  k_with "call ref" =>
    first
    | (with_reducible show wpAny _ _ (call (Value.ref 133) _) _ _ _)
      ktr_call 0 (leaf_ok S _ rfl n (by assumption) _ (by assumption))
      intro r' news' h' tk' F' N' P'
      obtain ⟨rfl, rfl⟩ := P'
      (try dsimp only)
      (try simp only [AllLt, and_true] at l9)
      (try simp only [AllLt, and_true] at hl')
    | (with_reducible show wpAny _ _ (call (Value.ref 140) _) _ _ _)
      ktr_call 0 (touch_ok { S with selected := n } _ rfl n (by assumption) _)
      intro r' news' h' tk' F' N' P'
      obtain ⟨hT9, rfl⟩ := P'
      (try dsimp only)
  k_steps
  exact hret _ _ _ _ (by assumption) (by assumption) ⟨by assumption, rfl⟩

theorem set_tree_size_ok {w : World} {mean : ExcName → Option Value} {mg mb : Str → Option Value} (S : TS) (tx : Addr) (hx : S.x = tx) (n : Int) (hn : n ∈ S.dom) (t : Tok) (hs0 : (S.W n).sort = 0) (hk0 : (S.W n).kids = []) (ax i : Int) (ta ti : Tok) :
    CallOk w mean mg mb (.ref 311) [.ref tx, .int n t, .int ax ta, .int i ti] 20 400 (fun news => TreeIn w news S) (fun news news' v => TreeIn w news' { S with W := upd S.W n (setSizeI ax i (S.W n)) } ∧ v = .none) := by
  subst hx
  unfold CallOk
  k_fill
  intro dp un gd cn cs a ccd cl outer A₀ base h₀ L m news s Q E B F X N Tp hk hT hd hu hret
  refine wpAny_call ?_
  k_dflt ktr_enter
  k_with "call ref" =>
    first
    | (exfalso; omega)
    | refine stop ?_
  k_steps
  refine go ?_
  rename News _ _ _ _ => lN9
  obtain ⟨S8, hS8, hT8⟩ := keepsN 5 lN9 hT (by (simp only [List.take_succ_cons, List.take_zero, List.drop_succ_cons, List.drop_zero, List.forall_mem_cons]); exact ⟨by first | (k_dflt k_all) | fail, by first | (k_dflt k_all) | fail, by first | (k_dflt k_all) | fail, by first | (k_dflt k_all) | fail, by first | (k_dflt k_all) | fail, fun _ h => nomatch h⟩)
  simp only [List.take_succ_cons, List.take_zero, List.cons_append, List.nil_append] at hS8
  have hn8 : n ∈ S8.dom := by rw [hS8]; exact hn
  have hA8 : (S8.A n).x = (S.A n).x := by rw [hS8]
  (with_reducible show wpAny _ _ (call (Value.ref 69) _) _ _ _)
  ktr_call 0 (set_size_ok S8 n hn8 _ hA8 ax i _ _)
  intro r' news' h' tk' F' N' P'
  obtain ⟨hT9, rfl⟩ := P'
  have hx9 := fun p hp => hT9.ex (p := p) hp
  dsimp only [hS8] at hx9
  simp only [hS8, List.forall_mem_cons] at hx9
  refine shut ?_
  intro G9 hG9
  obtain ⟨hx1, hx2, hx3, hx4, hx5, hx6⟩ := hx9
  refine hG9 ?_
  (try dsimp only)
  k_steps
  refine hret _ _ _ _ (by assumption) (News.sub (l' := news') (by assumption) (sub_tail sub_nil)) ⟨?_, rfl⟩
  subst hS8
  exact hT9.drop (fun p hp => by simp [hp])
end
section
theorem fresh_M8 : True := by
  w_top off
  k_with_none
  k_with "w k_mem" => (with_unfolding_all refine memIn ?_; ktr_member)
  k_with "w units_room" => ktr_units
  k_with "w k_room" => ktr_room
  k_with "zT" => first | assumption | ((refine TreeIn.mono (by assumption) ?_); repeat (first | exact sub_nil | refine sub_tail ?_))
  k_with "zn" => first | assumption | exact .head _ | exact .tail _ (by assumption)
  k_with "zA" => first | k_extra "zx" | exact upd_ne _ _ (by first | assumption | exact Ne.symm (by assumption))
  k_with "zx" => first | with_reducible rfl | assumption
  k_with "zP" => exact ⟨by k_asm, by k_asm, by k_asm, by k_extra "zT", by k_extra "zn", by k_extra "zA"⟩
  k_with "zQ" => exact ⟨by k_asm, by k_asm, by k_asm, by k_extra "zT", by k_extra "zx", by k_extra "zx"⟩
  k_with "zX" => exact ⟨by k_asm, by k_asm, by k_asm, by k_extra "zT", by k_extra "zx"⟩
  k_with "zC" => exact ⟨by k_asm, by k_asm, by k_asm, by k_asm, by k_asm⟩
  k_with "w ktr_room" => first | exact room1 (by assumption) rfl | exact room0 (by assumption) rfl | exact room2 (by assumption) rfl | ((simp +zetaDelta only [depth_under_make, depth_under_kw, depth_in1, depth_deeper, depth_caller, recursionLimit] at *); omega)
  k_with "w ktr_units" => first | exact room0 (by assumption) rfl | exact room1 (by assumption) rfl | (have zcL := cLine_is; (simp +zetaDelta only [units_in1, units_deeper, Around.mark_units, units_caller] at *); omega)
  k_with "zL" => ((try simp only [List.length_reverse, List.length_map, List.length_append, List.length_cons, List.length_nil]); omega)
  k_with "w call builtin:list.pop" => (k_here; k_dflt (refine pop_last (by k_asm) (by k_asm) (by k_upd) (by first | omega | assumption) ?_); intro _ _ _; (try k_sweep))
  k_with "w call builtin:list.extend" => (k_here; (with_reducible show wpAny _ _ (call (Value.builtin _) [Value.ref _, Value.ref _]) _ _ _); k_dflt (refine ext_ints (by k_asm) (by k_asm) (by k_mem) (by k_updF) (by l_ints) (by k_extra "zL") ?_); intro _ _ _ zN; (try dsimp only at zN); (try k_sweep))
  k_with "w setAttr ref" => (k_here; k_dflt (refine set_s (by k_asm) (by k_asm) (by k_asm) (by k_inst) (by rfl) (by k_is) (by k_is) (by k_is) (by k_is) (by k_get) (by k_put) (by k_updF) (by exact Nat.le_of_ble_eq_true rfl) ?_; k_whole); intro _ _ _ _ _; (try k_sweep))
  k_with "w call builtin:list.append" => (k_here; (with_reducible show wpAny _ _ (call (Value.builtin _) [Value.ref _, _]) _ _ _); k_dflt (refine app_any (by k_asm) (by k_asm) (by k_upd) (by first | omega | k_extra "zL") ?_); intro _ _ zN; (try dsimp only at zN); (try k_sweep))
  k_with "w execs cons" => (k_here; first | (refine execs_shut (s := ‹Shared›) ?_; intro _ _ _) | (refine execs_lit ?_; intro _ _ _) | (refine execs_shut0 ?_; intro _ _))
  k_with "w SPost" => first | refine spost_next (by assumption) ?_ | refine spost_ret (by assumption) ?_ | refine spost_cont (by assumption) ?_ | refine spost_brk (by assumption) ?_
  k_with "w CPost" => (refine cpost_of (by assumption) ?_)
  k_with "w WPost" => (dsimp only [WPost])
  k_with "w ksw_same" => (intro zz z3; (simp only [List.contains_cons, List.contains_nil, Bool.or_false, Bool.or_eq_false_iff, beq_eq_false_iff_ne, ne_eq] at z3); first | (simp [z3]; done) | (simp +zetaDelta [z3]; done))
  k_with "w FPost" => (dsimp only [FPost])
  k_with "w execs nil" => with_reducible refine wpAny_execs_nil ?_
  k_with "w call builtin:len" => (k_here; (with_reducible show wpAny _ _ (call (Value.builtin "len") [Value.ref _]) _ _ _); (refine len_ints (by k_asm) (by k_dflt k_mem) (by with_reducible assumption) (by k_extra "zL") ?_); (try simp only [List.length_map]))
  k_with "w eval Dict" => (k_here; k_dflt (refine kdn_str (by rfl) (by k_asm) (by first | k_asm | exact News.nil) (by exact Top.nolimit (by k_asm)) (by rfl) (by rfl) (by exact List.cons_ne_nil _ _) (by exact Nat.le_of_ble_eq_true rfl) ?_); intro zd zh zo zF zN zl zlo zhd; (try k_lt zl))
  k_with "w eval Constant int" => (with_reducible refine const_int_s ?_; intro _)
  k_with "w eval Constant str" => (with_reducible refine const_str_s ?_; intro _)
  k_with "w binaryOp Add int int" => (with_reducible refine add_int_s ?_; intro _)
  k_with "w binaryOp Sub int int" => (with_reducible refine sub_int_s ?_; intro _)
  k_with "w storeName" => (k_here; k_dflt (refine store_s (by k_asm) (by k_asm) ?_ rfl rfl; k_whole); intro _ _ _ _ _; (try k_sweep))
  k_with "w newTuple" => (k_here; kup_bare; k_dflt (refine tuple_s (by k_asm) (by k_asm) ?_ (by kmk_size)); intro _ _ _ _ zl; (try k_lt zl); (try k_sweep))
  k_with "w ktr_enter" => first | (refine enter_s (by k_extra "zC") rfl rfl (by first | assumption | exact rfl) (by k_is) (by k_is) (by ktr_room) (by first | exact BindsTo.of_eq rfl | exact binds_K (by k_in) rfl (by k_is) rfl rfl rfl) (by exact locs rfl) (by rfl) ?_ (by rfl) (by rfl) (by rfl) (by decide); k_whole; intro _ _ _ _ _ _ _ _ _ _ _ _; (try dsimp only); (try k_fold)) | (refine enterC_s (by k_extra "zC") rfl rfl (by first | assumption | exact rfl) (by k_is) (by k_is) (by ktr_room) (by first | exact BindsTo.of_eq rfl | exact binds_K (by k_in) rfl (by k_is) rfl rfl rfl) (by rfl) (by decide +kernel) ?_ (by rfl) (by rfl) (by rfl); k_whole; intro _ _ _ _ _ _ _ _ _ zN zY _ _ _ zl; (try k_lt zl); k_cells zY; (try simp only [List.cons_append, List.nil_append] at zN); (try dsimp only); (try k_fold))
  k_with "w getAttr ref" => (k_here; (with_reducible show wpAny _ _ (getAttr (Value.ref (AD.x (TS.A _ _))) _ _) _ _ _); first | ((with_reducible (first | apply rs_number | apply rs_sort | apply rs_parent | apply rs_left | apply rs_top | apply rs_width | apply rs_height)); (next => k_extra "zP"); intro _ _) | ((with_reducible (apply rs_children)); (next => k_extra "zP"); intro _) | ((with_reducible (first | apply rs_buffer | apply rs_start | apply rs_point | apply rs_hscroll)); (next => k_extra "zP"); intro _ _ _) | ((with_reducible (apply rs_earlier)); (next => k_extra "zP"); intro _ _ _ _))
  k_with "w getAttr ref" => (k_here; (with_reducible show wpAny _ _ (getAttr (Value.ref (TS.x _)) _ _) _ _ _); first | ((with_reducible (apply rs_t_windows)); (next => k_extra "zQ"); intro _) | ((with_reducible (first | apply rs_t_root | apply rs_t_selected | apply rs_t_last | apply rs_t_least_width | apply rs_t_least_height)); (next => k_extra "zQ"); intro _ _) | ((with_reducible (apply rs_t_clock)); (next => k_extra "zQ"); intro _ _ _))
  k_with "w getMethod ref" => (k_here; (with_reducible show wpAny _ _ (getMethod (Value.ref (AD.x (TS.A _ _))) _ _) _ _ _); ((with_reducible (first | apply ms_size | apply ms_set_size | apply ms_place | apply ms_shown | apply ms_show)); (next => k_extra "zP")))
  k_with "w getMethod ref" => (k_here; (with_reducible show wpAny _ _ (getMethod (Value.ref (TS.x _)) _ _) _ _ _); ((with_reducible (first | apply ms_t_window | apply ms_t_leaf | apply ms_t_touch | apply ms_t_fresh | apply ms_t_select | apply ms_t_least_leaf)); (next => k_extra "zQ")))
  k_with "w k_all" => first | assumption | exact all_succ (by assumption) | exact all_succ2 (by assumption)
  k_with "w subscriptTail" => (k_here; (with_reducible apply it_tail); (next => k_asm); (next => k_extra "zT"); rotate_left; (next => with_unfolding_all rfl))
  k_with "w getItem ref int" => (k_here; (with_reducible apply it_get); (next => k_asm); (next => k_extra "zT"); (next => k_extra "zn"))
  k_with "w getMethod ref" => (k_here; (with_reducible apply it_getm); (next => k_asm); (next => k_extra "zT"))
  k_with "w call builtin:dict.get" => (k_here; (with_reducible apply it_get2); (next => k_asm); (next => k_extra "zT"); (next => k_extra "zn"))
  k_with "w setAttr ref" => (k_here; (with_reducible show wpAny _ _ (setAttr (Value.ref (AD.x (TS.A _ _))) _ (Value.int _ _)) _ _ _); ((with_reducible (first | apply ws_parent | apply ws_left | apply ws_top | apply ws_width | apply ws_height | apply ws_buffer | apply ws_start | apply ws_point | apply ws_hscroll | apply ws_use_time)); (next => k_extra "zP"); intro _ _ _ _ _ _; (try k_sweep)))
  k_with "w setAttr ref" => (k_here; (with_reducible show wpAny _ _ (setAttr (Value.ref (TS.x _)) _ (Value.int _ _)) _ _ _); ((with_reducible (first | apply ws_t_last | apply ws_t_clock | apply ws_t_root | apply ws_t_selected)); (next => k_extra "zX"); intro _ _ _ _ _ _; (try k_sweep)))
  k_with "w exec Raise some none" => (first | (exfalso; omega) | (k_here; (with_reducible show wpAny _ _ (exec (Stmt.Raise (some (Expr.Call (Expr.Name (Str.ofString "LispSignal") _) _ _ _)) none _) _) _ _ _); k_dflt (refine raise_K rfl ?_)))
  k_with "w call ref" => (k_here; k_dflt (refine exc_call (by k_asm) (by k_asm) (by k_asm) ?_); intro _ _ _ _ _ _; refine wpAny_call ?_; k_dflt ktr_enter)
  k_with "w setAttr ref" => (k_here; (with_reducible show wpAny _ _ (setAttr (Value.ref _) (Str.ofString "symbol") _) _ _ _); k_dflt (refine exc_store0 (by k_asm) (by k_asm) (by k_asm) (by assumption) (by exact (sig_facts _).2.2.2.1) (by exact lk_exc _ (.inl rfl)) ?_); intro _ _ _ _ _ _ _ _ _)
  k_with "w setAttr ref" => (k_here; (with_reducible show wpAny _ _ (setAttr (Value.ref _) (Str.ofString "data") _) _ _ _); k_dflt (refine exc_store1 (by k_asm) (by k_asm) (by k_asm) (by assumption) (by assumption) (by assumption) (by assumption) (by exact (sig_facts _).2.2.2.2.1) (by exact lk_exc _ (.inr rfl)) ?_ (by exact Within.cons _ _ Within.nil) (by (rw [sizeLine_eq]; decide))); intro _ _ _ _ _ _)
  k_with "w RaiseK" => (k_here; k_dflt (refine raiseK_intro (by k_asm) (by k_asm) (by k_asm) (by k_mem) ?_))
  k_with "w And" => ((with_reducible show Value.none = Value.none ∧ _); refine ⟨rfl, ?_⟩)
  k_with "zh" => first | exact rfl | assumption
  k_with "zp" => first | k_extra "zT" | exact trivial
  trivial
theorem fresh_ok {w : World} {mean : ExcName → Option Value} {mg mb : Str → Option Value} (S : TS) (tx : Addr) (hx : S.x = tx)(so pa : Int) (ts tp : Tok) (hnew : S.last + 1 ∉ S.dom) (hsz : S.dom.length < 1000) :
    CallOk w mean mg mb (.ref 119) [.ref tx, .int so ts, .int pa tp] 10 200 (fun news => TreeIn w news S) (fun news news' v => ∃ x d c, TreeIn w news' { S with last := S.last + 1, dom := (S.last + 1) :: S.dom, A := upd S.A (S.last + 1) ⟨x, d⟩, W := upd S.W (S.last + 1) ⟨c, so, pa, 0, 0, 0, 0, []⟩ } ∧ v = .ref x) := by
  subst hx
  unfold CallOk
  k_fill
  intro dp un gd cn cs a ccd cl outer A₀ base h₀ L m news s Q E B F X N Tp hk hT hd hu hret
  refine wpAny_call ?_
  k_dflt ktr_enter
  k_with "setItem ref int ref" => refine stop ?_
  k_steps
  refine go ?_
  rename News _ _ _ _ => lN9
  rename ∀ p ∈ _, _ < _ => lA9
  k_dflt (refine' wr_add ?qF lN9 ?qT ?qs hnew hsz ?qx ?qd ?qc ?qe ?q1 ?q2 ?q3 ?q4 ?q5 ?q6 ?qhx ?qhd ?qhc ?qhe ?_)
  case qF => k_asm
  case qT => assumption
  case qs => kst_in
  case qhx => k_mem
  case qhd => k_dflt k_mem
  case qhc => k_mem
  case qhe => k_mem
  case qx => exact fun p hp => neN (by have h8 := ltN (lA9 p hp); omega)
  case qd => k_dflt k_all
  case qc => k_dflt k_all
  case qe => k_dflt k_all
  case q1 => k_ne
  case q2 => k_ne
  case q3 => k_ne
  case q4 => k_ne
  case q5 => k_ne
  case q6 => k_ne
  intro h9 news9 F9 N9 hT9
  k_steps
  exact hret _ _ _ _ (by assumption) (by assumption) ⟨_, _, _, hT9, rfl⟩
end
section
theorem fresh_M9 : True := by
  w_top off
  k_with_none
  k_with "w k_mem" => (with_unfolding_all refine memIn ?_; ktr_member)
  k_with "w units_room" => ktr_units
  k_with "w k_room" => ktr_room
  k_with "zT" => first | assumption | ((refine TreeIn.mono (by assumption) ?_); repeat (first | exact sub_nil | refine sub_tail ?_))
  k_with "zn" => first | assumption | exact .head _ | exact .tail _ (by assumption)
  k_with "zA" => first | k_extra "zx" | exact upd_ne _ _ (by first | assumption | exact Ne.symm (by assumption))
  k_with "zx" => first | with_reducible rfl | assumption
  k_with "zP" => exact ⟨by k_asm, by k_asm, by k_asm, by k_extra "zT", by k_extra "zn", by k_extra "zA"⟩
  k_with "zQ" => exact ⟨by k_asm, by k_asm, by k_asm, by k_extra "zT", by k_extra "zx", by k_extra "zx"⟩
  k_with "zX" => exact ⟨by k_asm, by k_asm, by k_asm, by k_extra "zT", by k_extra "zx"⟩
  k_with "zC" => exact ⟨by k_asm, by k_asm, by k_asm, by k_asm, by k_asm⟩
  k_with "w ktr_room" => first | exact room1 (by assumption) rfl | exact room0 (by assumption) rfl | exact room2 (by assumption) rfl | ((simp +zetaDelta only [depth_under_make, depth_under_kw, depth_in1, depth_deeper, depth_caller, recursionLimit] at *); omega)
  k_with "w ktr_units" => first | exact room0 (by assumption) rfl | exact room1 (by assumption) rfl | (have zcL := cLine_is; (simp +zetaDelta only [units_in1, units_deeper, Around.mark_units, units_caller] at *); omega)
  k_with "zL" => ((try simp only [List.length_reverse, List.length_map, List.length_append, List.length_cons, List.length_nil]); omega)
  k_with "w call builtin:list.pop" => (k_here; k_dflt (refine pop_last (by k_asm) (by k_asm) (by k_upd) (by first | omega | assumption) ?_); intro _ _ _; (try k_sweep))
  k_with "w call builtin:list.extend" => (k_here; (with_reducible show wpAny _ _ (call (Value.builtin _) [Value.ref _, Value.ref _]) _ _ _); k_dflt (refine ext_ints (by k_asm) (by k_asm) (by k_mem) (by k_updF) (by l_ints) (by k_extra "zL") ?_); intro _ _ _ zN; (try dsimp only at zN); (try k_sweep))
  k_with "w setAttr ref" => (k_here; k_dflt (refine set_s (by k_asm) (by k_asm) (by k_asm) (by k_inst) (by rfl) (by k_is) (by k_is) (by k_is) (by k_is) (by k_get) (by k_put) (by k_updF) (by exact Nat.le_of_ble_eq_true rfl) ?_; k_whole); intro _ _ _ _ _; (try k_sweep))
  k_with "w call builtin:list.append" => (k_here; (with_reducible show wpAny _ _ (call (Value.builtin _) [Value.ref _, _]) _ _ _); k_dflt (refine app_any (by k_asm) (by k_asm) (by k_upd) (by first | omega | k_extra "zL") ?_); intro _ _ zN; (try dsimp only at zN); (try k_sweep))
  k_with "w execs cons" => (k_here; first | (refine execs_shut (s := ‹Shared›) ?_; intro _ _ _) | (refine execs_lit ?_; intro _ _ _) | (refine execs_shut0 ?_; intro _ _))
  k_with "w SPost" => first | refine spost_next (by assumption) ?_ | refine spost_ret (by assumption) ?_ | refine spost_cont (by assumption) ?_ | refine spost_brk (by assumption) ?_
  k_with "w CPost" => (refine cpost_of (by assumption) ?_)
  k_with "w WPost" => (dsimp only [WPost])
  k_with "w ksw_same" => (intro zz z3; (simp only [List.contains_cons, List.contains_nil, Bool.or_false, Bool.or_eq_false_iff, beq_eq_false_iff_ne, ne_eq] at z3); first | (simp [z3]; done) | (simp +zetaDelta [z3]; done))
  k_with "w FPost" => (dsimp only [FPost])
  k_with "w execs nil" => with_reducible refine wpAny_execs_nil ?_
  k_with "w call builtin:len" => (k_here; (with_reducible show wpAny _ _ (call (Value.builtin "len") [Value.ref _]) _ _ _); (refine len_ints (by k_asm) (by k_dflt k_mem) (by with_reducible assumption) (by k_extra "zL") ?_); (try simp only [List.length_map]))
  k_with "w eval Dict" => (k_here; k_dflt (refine kdn_str (by rfl) (by k_asm) (by first | k_asm | exact News.nil) (by exact Top.nolimit (by k_asm)) (by rfl) (by rfl) (by exact List.cons_ne_nil _ _) (by exact Nat.le_of_ble_eq_true rfl) ?_); intro zd zh zo zF zN zl zlo zhd; (try k_lt zl))
  k_with "w eval Constant int" => (with_reducible refine const_int_s ?_; intro _)
  k_with "w eval Constant str" => (with_reducible refine const_str_s ?_; intro _)
  k_with "w binaryOp Add int int" => (with_reducible refine add_int_s ?_; intro _)
  k_with "w binaryOp Sub int int" => (with_reducible refine sub_int_s ?_; intro _)
  k_with "w storeName" => (k_here; k_dflt (refine store_s (by k_asm) (by k_asm) ?_ rfl rfl; k_whole); intro _ _ _ _ _; (try k_sweep))
  k_with "w newTuple" => (k_here; kup_bare; k_dflt (refine tuple_s (by k_asm) (by k_asm) ?_ (by kmk_size)); intro _ _ _ _ zl; (try k_lt zl); (try k_sweep))
  k_with "w ktr_enter" => first | (refine enter_s (by k_extra "zC") rfl rfl (by first | assumption | exact rfl) (by k_is) (by k_is) (by ktr_room) (by first | exact BindsTo.of_eq rfl | exact binds_K (by k_in) rfl (by k_is) rfl rfl rfl) (by exact locs rfl) (by rfl) ?_ (by rfl) (by rfl) (by rfl) (by decide); k_whole; intro _ _ _ _ _ _ _ _ _ _ _ _; (try dsimp only); (try k_fold)) | (refine enterC_s (by k_extra "zC") rfl rfl (by first | assumption | exact rfl) (by k_is) (by k_is) (by ktr_room) (by first | exact BindsTo.of_eq rfl | exact binds_K (by k_in) rfl (by k_is) rfl rfl rfl) (by rfl) (by decide +kernel) ?_ (by rfl) (by rfl) (by rfl); k_whole; intro _ _ _ _ _ _ _ _ _ zN zY _ _ _ zl; (try k_lt zl); k_cells zY; (try simp only [List.cons_append, List.nil_append] at zN); (try dsimp only); (try k_fold))
  k_with "w getAttr ref" => (k_here; (with_reducible show wpAny _ _ (getAttr (Value.ref (AD.x (TS.A _ _))) _ _) _ _ _); first | ((with_reducible (first | apply rs_number | apply rs_sort | apply rs_parent | apply rs_left | apply rs_top | apply rs_width | apply rs_height)); (next => k_extra "zP"); intro _ _) | ((with_reducible (apply rs_children)); (next => k_extra "zP"); intro _) | ((with_reducible (first | apply rs_buffer | apply rs_start | apply rs_point | apply rs_hscroll)); (next => k_extra "zP"); intro _ _ _) | ((with_reducible (apply rs_earlier)); (next => k_extra "zP"); intro _ _ _ _))
  k_with "w getAttr ref" => (k_here; (with_reducible show wpAny _ _ (getAttr (Value.ref (TS.x _)) _ _) _ _ _); first | ((with_reducible (apply rs_t_windows)); (next => k_extra "zQ"); intro _) | ((with_reducible (first | apply rs_t_root | apply rs_t_selected | apply rs_t_last | apply rs_t_least_width | apply rs_t_least_height)); (next => k_extra "zQ"); intro _ _) | ((with_reducible (apply rs_t_clock)); (next => k_extra "zQ"); intro _ _ _))
  k_with "w getMethod ref" => (k_here; (with_reducible show wpAny _ _ (getMethod (Value.ref (AD.x (TS.A _ _))) _ _) _ _ _); ((with_reducible (first | apply ms_size | apply ms_set_size | apply ms_place | apply ms_shown | apply ms_show)); (next => k_extra "zP")))
  k_with "w getMethod ref" => (k_here; (with_reducible show wpAny _ _ (getMethod (Value.ref (TS.x _)) _ _) _ _ _); ((with_reducible (first | apply ms_t_window | apply ms_t_leaf | apply ms_t_touch | apply ms_t_fresh | apply ms_t_select | apply ms_t_least_leaf)); (next => k_extra "zQ")))
  k_with "w k_all" => first | assumption | exact all_succ (by assumption) | exact all_succ2 (by assumption)
  k_with "w subscriptTail" => (k_here; (with_reducible apply it_tail); (next => k_asm); (next => k_extra "zT"); rotate_left; (next => with_unfolding_all rfl))
  k_with "w getItem ref int" => (k_here; (with_reducible apply it_get); (next => k_asm); (next => k_extra "zT"); (next => k_extra "zn"))
  k_with "w getMethod ref" => (k_here; (with_reducible apply it_getm); (next => k_asm); (next => k_extra "zT"))
  k_with "w call builtin:dict.get" => (k_here; (with_reducible apply it_get2); (next => k_asm); (next => k_extra "zT"); (next => k_extra "zn"))
  k_with "w setAttr ref" => (k_here; (with_reducible show wpAny _ _ (setAttr (Value.ref (AD.x (TS.A _ _))) _ (Value.int _ _)) _ _ _); ((with_reducible (first | apply ws_parent | apply ws_left | apply ws_top | apply ws_width | apply ws_height | apply ws_buffer | apply ws_start | apply ws_point | apply ws_hscroll | apply ws_use_time)); (next => k_extra "zP"); intro _ _ _ _ _ _; (try k_sweep)))
  k_with "w setAttr ref" => (k_here; (with_reducible show wpAny _ _ (setAttr (Value.ref (TS.x _)) _ (Value.int _ _)) _ _ _); ((with_reducible (first | apply ws_t_last | apply ws_t_clock | apply ws_t_root | apply ws_t_selected)); (next => k_extra "zX"); intro _ _ _ _ _ _; (try k_sweep)))
  k_with "w exec Raise some none" => (first | (exfalso; omega) | (k_here; (with_reducible show wpAny _ _ (exec (Stmt.Raise (some (Expr.Call (Expr.Name (Str.ofString "LispSignal") _) _ _ _)) none _) _) _ _ _); k_dflt (refine raise_K rfl ?_)))
  k_with "w call ref" => (k_here; k_dflt (refine exc_call (by k_asm) (by k_asm) (by k_asm) ?_); intro _ _ _ _ _ _; refine wpAny_call ?_; k_dflt ktr_enter)
  k_with "w setAttr ref" => (k_here; (with_reducible show wpAny _ _ (setAttr (Value.ref _) (Str.ofString "symbol") _) _ _ _); k_dflt (refine exc_store0 (by k_asm) (by k_asm) (by k_asm) (by assumption) (by exact (sig_facts _).2.2.2.1) (by exact lk_exc _ (.inl rfl)) ?_); intro _ _ _ _ _ _ _ _ _)
  k_with "w setAttr ref" => (k_here; (with_reducible show wpAny _ _ (setAttr (Value.ref _) (Str.ofString "data") _) _ _ _); k_dflt (refine exc_store1 (by k_asm) (by k_asm) (by k_asm) (by assumption) (by assumption) (by assumption) (by assumption) (by exact (sig_facts _).2.2.2.2.1) (by exact lk_exc _ (.inr rfl)) ?_ (by exact Within.cons _ _ Within.nil) (by (rw [sizeLine_eq]; decide))); intro _ _ _ _ _ _)
  k_with "w RaiseK" => (k_here; k_dflt (refine raiseK_intro (by k_asm) (by k_asm) (by k_asm) (by k_mem) ?_))
  k_with "w And" => ((with_reducible show Value.none = Value.none ∧ _); refine ⟨rfl, ?_⟩)
  k_with "zh" => first | exact rfl | assumption
  k_with "zp" => first | k_extra "zT" | exact trivial
  trivial
structure JS where
  fv : List Value
  fn : Nat

theorem joined_ok {w : World} {mean : ExcName → Option Value} {mg mb : Str → Option Value} (S : TS) (tx : Addr) (hx : S.x = tx) (n : Int) (hn : n ∈ S.dom) (t : Tok) (hz : (S.W n).kids.length ≤ 1000) (hkid : ∀ q ∈ (S.W n).kids, q ∈ S.dom ∧ (S.W q).sort ≠ (S.W n).sort ∧ (S.W q).parent = n) :
    CallOk w mean mg mb (.ref 346) [.ref tx, .int n t] 20 400 (fun news => TreeIn w news S) (fun news news' v => ∃ c, TreeIn w news' { S with W := upd S.W n { S.W n with c := c } } ∧ v = .none) := by
  subst hx
  unfold CallOk
  k_fill
  intro dp un gd cn cs a ccd cl outer A₀ base h₀ L m news s Q E B F X N Tp hk hT hd hu hret
  refine wpAny_call ?_
  k_dflt ktr_enter
  k_with "pyIter ref" => refine stop ?_
  k_with "exec For Name Call cons nil" =>
    k_here
    rename Fr _ _ _ _ => lF'
    with_unfolding_all refine' For_invVF lF' ?k1 ?k2 ?_
    case k1 => exact rfl
    case k2 => exact rfl
  refine shut ?_
  intro G9 hG9
  obtain ⟨vk, nk, hc', hki⟩ := hT.wc hn
  refine hG9 ?_
  have hkl := hki.length
  k_steps
  refine go ?_
  rename Fr _ _ _ _ => lF'
  rename News _ _ _ _ => lN'
  rename ∀ p ∈ news, _ < _ => lA
  with_unfolding_all refine' for_list (σ := JS) (fun c => (_, listOf c.fv.toArray c.fn) :: news) [Str.ofString "own"] (fun i c => IntsAre c.fv ((S.W n).kids.take i)) ⟨[], 0⟩ (by rfl) (fun _ _ _ => .tail _ hc') lF' lN' .nil ?turn ?done
  case turn =>
    clear lF' lN'
    intro i v I oi c u h' tk' hv hP hI F' N'
    refine shut ?_
    intro G9 hG9
    obtain ⟨fv, fn⟩ := c
    dsimp only at hP N'
    obtain ⟨q, tv, hq, rfl⟩ := ints_at hki hv
    obtain ⟨hqd, hqs, hqp⟩ := hkid q (List.mem_of_getElem? hq)
    refine hG9 ?_
    have hI1 := neN (hI _ (.head _))
    dsimp only at hI1
    have hfl := hP.length
    rw [List.length_take] at hfl
    k_steps
    · exact absurd ‹(S.W q).sort = (S.W n).sort› hqs
    refine fend_intro ⟨fv ++ [.int q tv], _⟩ (by assumption) (by assumption) (.head _) (by kst_in) (List.forall_mem_cons.mpr ⟨hI1, fun p hp => hI p (.tail _ hp)⟩) (by ksw_same) ?_
    rw [take_step hq]
    exact hP.append (.cons _ _ .nil)
  case done =>
    clear lF' lN'
    intro c u h' tk' hP F' N'
    obtain ⟨fv, fn⟩ := c
    dsimp only at hP N'
    rw [hkl, List.take_length] at hP
    k_steps
    refine go ?_
    rename Fr _ _ _ _ => lF2
    rename News _ _ _ _ => lN2
    have hT1 := hT.keep (listOf fv.toArray fn) (fun p hp => Nat.ne_of_lt (lA p hp))
    with_unfolding_all refine' for_list (σ := Led) (fun c => c) [] (fun i c => TreeIn w c { S with ex := (_, listOf fv.toArray fn) :: S.ex }) _ (by rfl) (fun i c h => h.ex (.head _)) lF2 lN2 hT1 ?turn2 ?done2
    case turn2 =>
      clear lF2 lN2
      intro i v I oi c u h' tk' hv hP2 hI F' N'
      refine shut ?_
      intro G9 hG9
      obtain ⟨q, tv, hq, rfl⟩ := ints_at hP hv
      obtain ⟨hqd, hqs, hqp⟩ := hkid q (List.mem_of_getElem? hq)
      refine hG9 ?_
      have hT2 := hP2.keep oi hI
      k_steps
      rename TreeIn _ _ _ => lT2
      have e9 : ∀ r : WR, r.parent = n → { r with parent := n } = r := by rintro ⟨⟩ rfl; rfl
      (try dsimp only at lT2)
      rw [e9 _ hqp, upd_id] at lT2
      refine fend_intro (off I _) (by assumption) (by assumption) (lT2.ex (.head _)) off_sub off_ne (by ksw_same) ?_
      exact (lT2.without (.head _)).drop fun p hp => mem_off (.tail _ hp) (hI p (hP2.ex hp))
    case done2 =>
      clear lF2 lN2
      intro c u h' tk' hP2 F' N'
      (try dsimp only at N')
      k_steps
      k_dflt (refine' wr_children ?wF ?wX ?wN hP2 hn rfl (.head _) hP ?_)
      case wF => k_asm
      case wX => k_asm
      case wN => k_asm
      intro h9 news9 F9 N9 hT9
      k_steps
      refine hret _ _ _ _ (by assumption) (by assumption) ⟨_, hT9.drop (fun p hp => mem_off (.tail _ hp) (Nat.ne_of_lt (lA p (hT.ex hp)))), rfl⟩
end
section
theorem fresh_M10 : True := by
  w_top off
  k_with_none
  k_with "w k_mem" => (with_unfolding_all refine memIn ?_; ktr_member)
  k_with "w units_room" => ktr_units
  k_with "w k_room" => ktr_room
  k_with "zT" => first | assumption | ((refine TreeIn.mono (by assumption) ?_); repeat (first | exact sub_nil | refine sub_tail ?_))
  k_with "zn" => first | assumption | exact .head _ | exact .tail _ (by assumption)
  k_with "zA" => first | k_extra "zx" | exact upd_ne _ _ (by first | assumption | exact Ne.symm (by assumption))
  k_with "zx" => first | with_reducible rfl | assumption
  k_with "zP" => exact ⟨by k_asm, by k_asm, by k_asm, by k_extra "zT", by k_extra "zn", by k_extra "zA"⟩
  k_with "zQ" => exact ⟨by k_asm, by k_asm, by k_asm, by k_extra "zT", by k_extra "zx", by k_extra "zx"⟩
  k_with "zX" => exact ⟨by k_asm, by k_asm, by k_asm, by k_extra "zT", by k_extra "zx"⟩
  k_with "zC" => exact ⟨by k_asm, by k_asm, by k_asm, by k_asm, by k_asm⟩
  k_with "w ktr_room" => first | exact room1 (by assumption) rfl | exact room0 (by assumption) rfl | exact room2 (by assumption) rfl | ((simp +zetaDelta only [depth_under_make, depth_under_kw, depth_in1, depth_deeper, depth_caller, recursionLimit] at *); omega)
  k_with "w ktr_units" => first | exact room0 (by assumption) rfl | exact room1 (by assumption) rfl | (have zcL := cLine_is; (simp +zetaDelta only [units_in1, units_deeper, Around.mark_units, units_caller] at *); omega)
  k_with "zL" => ((try simp only [List.length_reverse, List.length_map, List.length_append, List.length_cons, List.length_nil]); omega)
  k_with "w call builtin:list.pop" => (k_here; k_dflt (refine pop_last (by k_asm) (by k_asm) (by k_upd) (by first | omega | assumption) ?_); intro _ _ _; (try k_sweep))
  k_with "w call builtin:list.extend" => (k_here; (with_reducible show wpAny _ _ (call (Value.builtin _) [Value.ref _, Value.ref _]) _ _ _); k_dflt (refine ext_ints (by k_asm) (by k_asm) (by k_mem) (by k_updF) (by l_ints) (by k_extra "zL") ?_); intro _ _ _ zN; (try dsimp only at zN); (try k_sweep))
  k_with "w setAttr ref" => (k_here; k_dflt (refine set_s (by k_asm) (by k_asm) (by k_asm) (by k_inst) (by rfl) (by k_is) (by k_is) (by k_is) (by k_is) (by k_get) (by k_put) (by k_updF) (by exact Nat.le_of_ble_eq_true rfl) ?_; k_whole); intro _ _ _ _ _; (try k_sweep))
  k_with "w call builtin:list.append" => (k_here; (with_reducible show wpAny _ _ (call (Value.builtin _) [Value.ref _, _]) _ _ _); k_dflt (refine app_any (by k_asm) (by k_asm) (by k_upd) (by first | omega | k_extra "zL") ?_); intro _ _ zN; (try dsimp only at zN); (try k_sweep))
  k_with "w execs cons" => (k_here; first | (refine execs_shut (s := ‹Shared›) ?_; intro _ _ _) | (refine execs_lit ?_; intro _ _ _) | (refine execs_shut0 ?_; intro _ _))
  k_with "w SPost" => first | refine spost_next (by assumption) ?_ | refine spost_ret (by assumption) ?_ | refine spost_cont (by assumption) ?_ | refine spost_brk (by assumption) ?_
  k_with "w CPost" => (refine cpost_of (by assumption) ?_)
  k_with "w WPost" => (dsimp only [WPost])
  k_with "w ksw_same" => (intro zz z3; (simp only [List.contains_cons, List.contains_nil, Bool.or_false, Bool.or_eq_false_iff, beq_eq_false_iff_ne, ne_eq] at z3); first | (simp [z3]; done) | (simp +zetaDelta [z3]; done))
  k_with "w FPost" => (dsimp only [FPost])
  k_with "w execs nil" => with_reducible refine wpAny_execs_nil ?_
  k_with "w call builtin:len" => (k_here; (with_reducible show wpAny _ _ (call (Value.builtin "len") [Value.ref _]) _ _ _); (refine len_ints (by k_asm) (by k_dflt k_mem) (by with_reducible assumption) (by k_extra "zL") ?_); (try simp only [List.length_map]))
  k_with "w eval Dict" => (k_here; k_dflt (refine kdn_str (by rfl) (by k_asm) (by first | k_asm | exact News.nil) (by exact Top.nolimit (by k_asm)) (by rfl) (by rfl) (by exact List.cons_ne_nil _ _) (by exact Nat.le_of_ble_eq_true rfl) ?_); intro zd zh zo zF zN zl zlo zhd; (try k_lt zl))
  k_with "w eval Constant int" => (with_reducible refine const_int_s ?_; intro _)
  k_with "w eval Constant str" => (with_reducible refine const_str_s ?_; intro _)
  k_with "w binaryOp Add int int" => (with_reducible refine add_int_s ?_; intro _)
  k_with "w binaryOp Sub int int" => (with_reducible refine sub_int_s ?_; intro _)
  k_with "w storeName" => (k_here; k_dflt (refine store_s (by k_asm) (by k_asm) ?_ rfl rfl; k_whole); intro _ _ _ _ _; (try k_sweep))
  k_with "w newTuple" => (k_here; kup_bare; k_dflt (refine tuple_s (by k_asm) (by k_asm) ?_ (by kmk_size)); intro _ _ _ _ zl; (try k_lt zl); (try k_sweep))
  k_with "w ktr_enter" => first | (refine enter_s (by k_extra "zC") rfl rfl (by first | assumption | exact rfl) (by k_is) (by k_is) (by ktr_room) (by first | exact BindsTo.of_eq rfl | exact binds_K (by k_in) rfl (by k_is) rfl rfl rfl) (by exact locs rfl) (by rfl) ?_ (by rfl) (by rfl) (by rfl) (by decide); k_whole; intro _ _ _ _ _ _ _ _ _ _ _ _; (try dsimp only); (try k_fold)) | (refine enterC_s (by k_extra "zC") rfl rfl (by first | assumption | exact rfl) (by k_is) (by k_is) (by ktr_room) (by first | exact BindsTo.of_eq rfl | exact binds_K (by k_in) rfl (by k_is) rfl rfl rfl) (by rfl) (by decide +kernel) ?_ (by rfl) (by rfl) (by rfl); k_whole; intro _ _ _ _ _ _ _ _ _ zN zY _ _ _ zl; (try k_lt zl); k_cells zY; (try simp only [List.cons_append, List.nil_append] at zN); (try dsimp only); (try k_fold))
  k_with "w getAttr ref" => (k_here; (with_reducible show wpAny _ _ (getAttr (Value.ref (AD.x (TS.A _ _))) _ _) _ _ _); first | ((with_reducible (first | apply rs_number | apply rs_sort | apply rs_parent | apply rs_left | apply rs_top | apply rs_width | apply rs_height)); (next => k_extra "zP"); intro _ _) | ((with_reducible (apply rs_children)); (next => k_extra "zP"); intro _) | ((with_reducible (first | apply rs_buffer | apply rs_start | apply rs_point | apply rs_hscroll)); (next => k_extra "zP"); intro _ _ _) | ((with_reducible (apply rs_earlier)); (next => k_extra "zP"); intro _ _ _ _))
  k_with "w getAttr ref" => (k_here; (with_reducible show wpAny _ _ (getAttr (Value.ref (TS.x _)) _ _) _ _ _); first | ((with_reducible (apply rs_t_windows)); (next => k_extra "zQ"); intro _) | ((with_reducible (first | apply rs_t_root | apply rs_t_selected | apply rs_t_last | apply rs_t_least_width | apply rs_t_least_height)); (next => k_extra "zQ"); intro _ _) | ((with_reducible (apply rs_t_clock)); (next => k_extra "zQ"); intro _ _ _))
  k_with "w getMethod ref" => (k_here; (with_reducible show wpAny _ _ (getMethod (Value.ref (AD.x (TS.A _ _))) _ _) _ _ _); ((with_reducible (first | apply ms_size | apply ms_set_size | apply ms_place | apply ms_shown | apply ms_show)); (next => k_extra "zP")))
  k_with "w getMethod ref" => (k_here; (with_reducible show wpAny _ _ (getMethod (Value.ref (TS.x _)) _ _) _ _ _); ((with_reducible (first | apply ms_t_window | apply ms_t_leaf | apply ms_t_touch | apply ms_t_fresh | apply ms_t_select | apply ms_t_least_leaf)); (next => k_extra "zQ")))
  k_with "w k_all" => first | assumption | exact all_succ (by assumption) | exact all_succ2 (by assumption)
  k_with "w subscriptTail" => (k_here; (with_reducible apply it_tail); (next => k_asm); (next => k_extra "zT"); rotate_left; (next => with_unfolding_all rfl))
  k_with "w getItem ref int" => (k_here; (with_reducible apply it_get); (next => k_asm); (next => k_extra "zT"); (next => k_extra "zn"))
  k_with "w getMethod ref" => (k_here; (with_reducible apply it_getm); (next => k_asm); (next => k_extra "zT"))
  k_with "w call builtin:dict.get" => (k_here; (with_reducible apply it_get2); (next => k_asm); (next => k_extra "zT"); (next => k_extra "zn"))
  k_with "w setAttr ref" => (k_here; (with_reducible show wpAny _ _ (setAttr (Value.ref (AD.x (TS.A _ _))) _ (Value.int _ _)) _ _ _); ((with_reducible (first | apply ws_parent | apply ws_left | apply ws_top | apply ws_width | apply ws_height | apply ws_buffer | apply ws_start | apply ws_point | apply ws_hscroll | apply ws_use_time)); (next => k_extra "zP"); intro _ _ _ _ _ _; (try k_sweep)))
  k_with "w setAttr ref" => (k_here; (with_reducible show wpAny _ _ (setAttr (Value.ref (TS.x _)) _ (Value.int _ _)) _ _ _); ((with_reducible (first | apply ws_t_last | apply ws_t_clock | apply ws_t_root | apply ws_t_selected)); (next => k_extra "zX"); intro _ _ _ _ _ _; (try k_sweep)))
  k_with "w exec Raise some none" => (first | (exfalso; omega) | (k_here; (with_reducible show wpAny _ _ (exec (Stmt.Raise (some (Expr.Call (Expr.Name (Str.ofString "LispSignal") _) _ _ _)) none _) _) _ _ _); k_dflt (refine raise_K rfl ?_)))
  k_with "w call ref" => (k_here; k_dflt (refine exc_call (by k_asm) (by k_asm) (by k_asm) ?_); intro _ _ _ _ _ _; refine wpAny_call ?_; k_dflt ktr_enter)
  k_with "w setAttr ref" => (k_here; (with_reducible show wpAny _ _ (setAttr (Value.ref _) (Str.ofString "symbol") _) _ _ _); k_dflt (refine exc_store0 (by k_asm) (by k_asm) (by k_asm) (by assumption) (by exact (sig_facts _).2.2.2.1) (by exact lk_exc _ (.inl rfl)) ?_); intro _ _ _ _ _ _ _ _ _)
  k_with "w setAttr ref" => (k_here; (with_reducible show wpAny _ _ (setAttr (Value.ref _) (Str.ofString "data") _) _ _ _); k_dflt (refine exc_store1 (by k_asm) (by k_asm) (by k_asm) (by assumption) (by assumption) (by assumption) (by assumption) (by exact (sig_facts _).2.2.2.2.1) (by exact lk_exc _ (.inr rfl)) ?_ (by exact Within.cons _ _ Within.nil) (by (rw [sizeLine_eq]; decide))); intro _ _ _ _ _ _)
  k_with "w RaiseK" => (k_here; k_dflt (refine raiseK_intro (by k_asm) (by k_asm) (by k_asm) (by k_mem) ?_))
  k_with "w And" => ((with_reducible show Value.none = Value.none ∧ _); refine ⟨rfl, ?_⟩)
  k_with "zh" => first | exact rfl | assumption
  k_with "zp" => first | k_extra "zT" | exact trivial
  trivial
theorem shown_ok {w : World} {mean : ExcName → Option Value} {mg mb : Str → Option Value} (S : TS) (n : Int) (hn : n ∈ S.dom) (wx : Addr) (hw : (S.A n).x = wx) :
    CallOk w mean mg mb (.ref 83) [.ref wx] 5 100 (fun news => TreeIn w news S) (fun news news' v => ∃ a i1 i2 i3 i4 t1 t2 t3 t4, v = .ref a ∧ news' = (a, tupleOf [.int i1 t1, .int i2 t2, .int i3 t3, .int i4 t4]) :: news ∧ AllLt a news) := by
  subst hw
  unfold CallOk
  k_fill
  intro dp un gd cn cs a ccd cl outer A₀ base h₀ L m news s Q E B F X N Tp hk hT hd hu hret
  refine wpAny_call ?_
  k_dflt ktr_enter
  k_steps
  exact hret _ _ _ _ (by assumption) (by assumption) ⟨_, _, _, _, _, _, _, _, _, rfl, rfl, allLt_of (by assumption)⟩

theorem show_ok {w : World} {mean : ExcName → Option Value} {mg mb : Str → Option Value} (S : TS) (n : Int) (hn : n ∈ S.dom) (wx : Addr) (hw : (S.A n).x = wx) (a0 : Addr) (i1 i2 i3 i4 : Int) (t1 t2 t3 t4 : Tok) :
    CallOk w mean mg mb (.ref 90) [.ref wx, .ref a0] 5 100 (fun news => TreeIn w news S ∧ (a0, tupleOf [.int i1 t1, .int i2 t2, .int i3 t3, .int i4 t4]) ∈ news) (fun news news' v => TreeIn w news' S ∧ v = .none) := by
  subst hw
  unfold CallOk
  k_fill
  intro dp un gd cn cs a ccd cl outer A₀ base h₀ L m news s Q E B F X N Tp hk hT hd hu hret
  refine wpAny_call ?_
  k_dflt ktr_enter
  obtain ⟨hT, hm⟩ := hT
  k_steps
  exact hret _ _ _ _ (by assumption) (by assumption) ⟨by assumption, rfl⟩

theorem comb_same_ok {w : World} {mean : ExcName → Option Value} {mg mb : Str → Option Value} (S : TS) (tx : Addr) (hx : S.x = tx) (n : Int) (hn : n ∈ S.dom) (t : Tok) (hp : (S.W n).parent ≠ 0) (hpd : (S.W n).parent ∈ S.dom) (ax : Int) (ta : Tok) (hs : alongI (S.W (S.W n).parent).sort = ax) :
    CallOk w mean mg mb (.ref 332) [.ref tx, .int n t, .int ax ta] 20 400 (fun news => TreeIn w news S) (fun news news' v => news' = news ∧ ∃ t, v = .int (S.W n).parent t) := by
  subst hx
  unfold CallOk
  k_fill
  intro dp un gd cn cs a ccd cl outer A₀ base h₀ L m news s Q E B F X N Tp hk hT hd hu hret
  refine wpAny_call ?_
  k_dflt ktr_enter
  k_with "call ref" =>
    first
    | (exfalso; omega)
    | (with_reducible show wpAny _ _ (call (Value.ref 175) _) _ _ _)
      ktr_call 0 (along_ok _ _)
      intro r' news' h' tk' F' N' P'
      obtain ⟨rfl, tk9, rfl⟩ := P'
      (try dsimp only)
      (try simp only [AllLt, and_true] at l9)
      (try simp only [AllLt, and_true] at hl')
  k_steps
  all_goals exact hret _ _ _ _ (by assumption) (by assumption) ⟨rfl, ktn_int rfl⟩

theorem replace_root_ok {w : World} {mean : ExcName → Option Value} {mg mb : Str → Option Value} (S : TS) (tx : Addr) (hx : S.x = tx) (n b : Int) (hn : n ∈ S.dom) (hb : b ∈ S.dom) (hp : (S.W n).parent = 0) (t tb : Tok) :
    CallOk w mean mg mb (.ref 210) [.ref tx, .int n t, .int b tb] 10 200 (fun news => TreeIn w news S) (fun news news' v => TreeIn w news' { S with W := upd S.W b { S.W b with parent := (S.W n).parent }, root := b } ∧ v = .none) := by
  subst hx
  unfold CallOk
  k_fill
  intro dp un gd cn cs a ccd cl outer A₀ base h₀ L m news s Q E B F X N Tp hk hT hd hu hret
  refine wpAny_call ?_
  k_dflt ktr_enter
  k_with "exec Assign" => (exfalso; omega)
  k_steps
  all_goals exact hret _ _ _ _ (by assumption) (by assumption) ⟨by assumption, rfl⟩

theorem replace_kid_ok {w : World} {mean : ExcName → Option Value} {mg mb : Str → Option Value} (S : TS) (tx : Addr) (hx : S.x = tx) (n b p : Int) (hn : n ∈ S.dom) (hb : b ∈ S.dom) (hp : (S.W n).parent = p) (hp0 : p ≠ 0) (hpd : p ∈ S.dom) (hpa : p ≠ b) (i : Nat) (hi : (S.W p).kids[i]? = some n) (hnd : (S.W p).kids.Nodup) (hz : (S.W p).kids.length ≤ 1000) (t tb : Tok) :
    CallOk w mean mg mb (.ref 210) [.ref tx, .int n t, .int b tb] 10 200 (fun news => TreeIn w news S) (fun news news' v => TreeIn w news' { S with W := upd (upd S.W b { S.W b with parent := p }) p { S.W p with kids := (S.W p).kids.set i b } } ∧ v = .none) := by
  subst hx
  subst hp
  unfold CallOk
  k_fill
  intro dp un gd cn cs a ccd cl outer A₀ base h₀ L m news s Q E B F X N Tp hk hT hd hu hret
  refine wpAny_call ?_
  k_dflt ktr_enter
  k_with "setItem ref int int" => refine stop ?_
  k_with "s getMethod" => (k_here; (with_reducible show wpAny _ _ (getMethod (Value.ref (WR.c _)) _ _) _ _ _); (fail_if_success (have zq := hki)); refine stop ?_)
  k_steps
  refine go ?_
  rename TreeIn _ _ _ => lT
  rename News _ _ _ _ => lN
  refine shut ?_
  intro G9 hG9
  obtain ⟨vk, nk, hc', hki⟩ := lT.wc (n := (S.W n).parent) hpd
  refine hG9 ?_
  have e9 : ∀ r, upd S.W b r (S.W n).parent = S.W (S.W n).parent := fun r => upd_ne _ _ hpa
  k_steps
  k_dflt (refine' ix_ints (i := i) ?zN ?zm hki ?zk ?zd ?zz ?_)
  case zN => k_asm
  case zm => k_mem
  case zk => (dsimp only; rw [e9]; exact hi)
  case zd => (dsimp only; rw [e9]; exact hnd)
  case zz => (dsimp only; rw [e9]; lia)
  k_steps
  refine go ?_
  k_dflt (refine' wr_kid_set (n := (S.W n).parent) ?wF ?wN lT hpd ?w0 ?w1 ?wz ?_)
  case wF => k_asm
  case wN => k_asm
  case w0 => lia
  case w1 => (dsimp only; rw [e9]; have := lt_of_get hi; lia)
  case wz => (dsimp only; rw [e9]; exact hz)
  intro h9 news9 F9 N9 hT9
  dsimp only at hT9
  rw [e9, Int.toNat_natCast] at hT9
  k_steps
  exact hret _ _ _ _ (by assumption) (by assumption) ⟨hT9, rfl⟩
end
section
theorem CallOk.mono {w : World} {mean : ExcName → Option Value} {mg mb : Str → Option Value} {f : Value} {args : List Value} {dn un₀ : Nat} {Pre : Led → Prop} {Post Post' : Led → Led → Value → Prop} (C : CallOk w mean mg mb f args dn un₀ Pre Post) (h : ∀ a b v, Post a b v → Post' a b v) :
    CallOk w mean mg mb f args dn un₀ Pre Post' := fun dp un gd cn cs a ccd cl outer A₀ base h₀ L m news s Q E B F X N T hk hp hd hu ret =>
  C dp un gd cn cs a ccd cl outer A₀ base h₀ L m news s Q E B F X N T hk hp hd hu fun r news' h' tk' F' N' p => ret r news' h' tk' F' N' (h _ _ _ p)
/-- what a fresh window makes of the state -/
structure FreshR (S S1 : TS) (so pa : Int) : Prop where
  x : S1.x = S.x
  d : S1.d = S.d
  last : S1.last = S.last + 1
  root : S1.root = S.root
  sel : S1.selected = S.selected
  dom : S1.dom = (S.last + 1) :: S.dom
  A : ∀ m, m ≠ S.last + 1 → S1.A m = S.A m
  Wa : ∃ c, S1.W (S.last + 1) = ⟨c, so, pa, 0, 0, 0, 0, []⟩
  Wo : ∀ m, m ≠ S.last + 1 → S1.W m = S.W m
  ex : S1.ex = S.ex
theorem fresh2_ok {w : World} {mean : ExcName → Option Value} {mg mb : Str → Option Value} (S : TS) (tx : Addr) (hx : S.x = tx)(so pa : Int) (ts tp : Tok) (hnew : S.last + 1 ∉ S.dom) (hsz : S.dom.length < 1000) :
    CallOk w mean mg mb (.ref 119) [.ref tx, .int so ts, .int pa tp] 10 200 (fun news => TreeIn w news S) (fun news news' v => ∃ S1, FreshR S S1 so pa ∧ TreeIn w news' S1 ∧ v = .ref (S1.A (S.last + 1)).x) :=
  (fresh_ok S tx hx so pa ts tp hnew hsz).mono fun _ _ _ ⟨x, d, c, hT, hv⟩ => ⟨{ S with last := S.last + 1, dom := (S.last + 1) :: S.dom, A := upd S.A (S.last + 1) ⟨x, d⟩, W := upd S.W (S.last + 1) ⟨c, so, pa, 0, 0, 0, 0, []⟩ }, ⟨rfl, rfl, rfl, rfl, rfl, rfl, fun m hm => upd_ne _ _ hm, ⟨c, upd_same _ _ _⟩, fun m hm => upd_ne _ _ hm, rfl⟩, hT, by rw [hv]; dsimp only; rw [upd_same]⟩
theorem absS {w : World} {l : Led} {S : TS} (H : TreeIn w l S) : ∃ S5 : TS, S5 = S ∧ TreeIn w l S5 := ⟨_, rfl, H⟩
structure CombR (S S' : TS) (n ax : Int) : Prop where
  x : S'.x = S.x
  d : S'.d = S.d
  last : S'.last = S.last + 1
  root : S'.root = if (S.W n).parent = 0 then S.last + 1 else S.root
  sel : S'.selected = S.selected
  dom : S'.dom = (S.last + 1) :: S.dom
  A : ∀ m, m ≠ S.last + 1 → S'.A m = S.A m
  Wa : ∃ c, S'.W (S.last + 1) = ⟨c, sortI ax, (S.W n).parent, (S.W n).left, (S.W n).top, (S.W n).width, (S.W n).height, [n]⟩
  Wn : S'.W n = { S.W n with parent := S.last + 1 }
  Wp : (S.W n).parent ≠ 0 → ∀ i : Nat, (S.W (S.W n).parent).kids[i]? = some n → S'.W (S.W n).parent = { S.W (S.W n).parent with kids := (S.W (S.W n).parent).kids.set i (S.last + 1) }
  Wo : ∀ m, m ≠ S.last + 1 → m ≠ n → ((S.W n).parent ≠ 0 → m ≠ (S.W n).parent) → S'.W m = S.W m
  ex : S'.ex = S.ex
theorem idx_unique {l : List Int} (h : l.Nodup) {i j : Nat} {n : Int} (hi : l[i]? = some n) (hj : l[j]? = some n) : i = j := by
  rcases Nat.lt_trichotomy i j with q | q | q
  · exact absurd (by rw [List.getElem?_eq_some_iff] at hi hj; obtain ⟨a, ha⟩ := hi; obtain ⟨b, hb⟩ := hj; rw [ha, hb]) (List.pairwise_iff_getElem.mp h i j (lt_of_get hi) (lt_of_get hj) q)
  · exact q
  · exact absurd (by rw [List.getElem?_eq_some_iff] at hi hj; obtain ⟨a, ha⟩ := hi; obtain ⟨b, hb⟩ := hj; rw [ha, hb]) (List.pairwise_iff_getElem.mp h j i (lt_of_get hj) (lt_of_get hi) q)
end
section
theorem fresh_M11 : True := by
  w_top off
  k_with_none
  k_with "w k_mem" => (with_unfolding_all refine memIn ?_; ktr_member)
  k_with "w units_room" => ktr_units
  k_with "w k_room" => ktr_room
  k_with "zT" => first | assumption | ((refine TreeIn.mono (by assumption) ?_); repeat (first | exact sub_nil | refine sub_tail ?_))
  k_with "zn" => first | assumption | exact .head _ | exact .tail _ (by assumption)
  k_with "zA" => first | k_extra "zx" | exact upd_ne _ _ (by first | assumption | exact Ne.symm (by assumption))
  k_with "zx" => first | with_reducible rfl | assumption
  k_with "zP" => exact ⟨by k_asm, by k_asm, by k_asm, by k_extra "zT", by k_extra "zn", by k_extra "zA"⟩
  k_with "zQ" => exact ⟨by k_asm, by k_asm, by k_asm, by k_extra "zT", by k_extra "zx", by k_extra "zx"⟩
  k_with "zX" => exact ⟨by k_asm, by k_asm, by k_asm, by k_extra "zT", by k_extra "zx"⟩
  k_with "zC" => exact ⟨by k_asm, by k_asm, by k_asm, by k_asm, by k_asm⟩
  k_with "w ktr_room" => first | exact room1 (by assumption) rfl | exact room0 (by assumption) rfl | exact room2 (by assumption) rfl | ((simp +zetaDelta only [depth_under_make, depth_under_kw, depth_in1, depth_deeper, depth_caller, recursionLimit] at *); omega)
  k_with "w ktr_units" => first | exact room0 (by assumption) rfl | exact room1 (by assumption) rfl | (have zcL := cLine_is; (simp +zetaDelta only [units_in1, units_deeper, Around.mark_units, units_caller] at *); omega)
  k_with "zL" => ((try simp only [List.length_reverse, List.length_map, List.length_append, List.length_cons, List.length_nil]); omega)
  k_with "w call builtin:list.pop" => (k_here; k_dflt (refine pop_last (by k_asm) (by k_asm) (by k_upd) (by first | omega | assumption) ?_); intro _ _ _; (try k_sweep))
  k_with "w call builtin:list.extend" => (k_here; (with_reducible show wpAny _ _ (call (Value.builtin _) [Value.ref _, Value.ref _]) _ _ _); k_dflt (refine ext_ints (by k_asm) (by k_asm) (by k_mem) (by k_updF) (by l_ints) (by k_extra "zL") ?_); intro _ _ _ zN; (try dsimp only at zN); (try k_sweep))
  k_with "w setAttr ref" => (k_here; k_dflt (refine set_s (by k_asm) (by k_asm) (by k_asm) (by k_inst) (by rfl) (by k_is) (by k_is) (by k_is) (by k_is) (by k_get) (by k_put) (by k_updF) (by exact Nat.le_of_ble_eq_true rfl) ?_; k_whole); intro _ _ _ _ _; (try k_sweep))
  k_with "w call builtin:list.append" => (k_here; (with_reducible show wpAny _ _ (call (Value.builtin _) [Value.ref _, _]) _ _ _); k_dflt (refine app_any (by k_asm) (by k_asm) (by k_upd) (by first | omega | k_extra "zL") ?_); intro _ _ zN; (try dsimp only at zN); (try k_sweep))
  k_with "w execs cons" => (k_here; first | (refine execs_shut (s := ‹Shared›) ?_; intro _ _ _) | (refine execs_lit ?_; intro _ _ _) | (refine execs_shut0 ?_; intro _ _))
  k_with "w SPost" => first | refine spost_next (by assumption) ?_ | refine spost_ret (by assumption) ?_ | refine spost_cont (by assumption) ?_ | refine spost_brk (by assumption) ?_
  k_with "w CPost" => (refine cpost_of (by assumption) ?_)
  k_with "w WPost" => (dsimp only [WPost])
  k_with "w ksw_same" => (intro zz z3; (simp only [List.contains_cons, List.contains_nil, Bool.or_false, Bool.or_eq_false_iff, beq_eq_false_iff_ne, ne_eq] at z3); first | (simp [z3]; done) | (simp +zetaDelta [z3]; done))
  k_with "w FPost" => (dsimp only [FPost])
  k_with "w execs nil" => with_reducible refine wpAny_execs_nil ?_
  k_with "w call builtin:len" => (k_here; (with_reducible show wpAny _ _ (call (Value.builtin "len") [Value.ref _]) _ _ _); (refine len_ints (by k_asm) (by k_dflt k_mem) (by with_reducible assumption) (by k_extra "zL") ?_); (try simp only [List.length_map]))
  k_with "w eval Dict" => (k_here; k_dflt (refine kdn_str (by rfl) (by k_asm) (by first | k_asm | exact News.nil) (by exact Top.nolimit (by k_asm)) (by rfl) (by rfl) (by exact List.cons_ne_nil _ _) (by exact Nat.le_of_ble_eq_true rfl) ?_); intro zd zh zo zF zN zl zlo zhd; (try k_lt zl))
  k_with "w eval Constant int" => (with_reducible refine const_int_s ?_; intro _)
  k_with "w eval Constant str" => (with_reducible refine const_str_s ?_; intro _)
  k_with "w binaryOp Add int int" => (with_reducible refine add_int_s ?_; intro _)
  k_with "w binaryOp Sub int int" => (with_reducible refine sub_int_s ?_; intro _)
  k_with "w storeName" => (k_here; k_dflt (refine store_s (by k_asm) (by k_asm) ?_ rfl rfl; k_whole); intro _ _ _ _ _; (try k_sweep))
  k_with "w newTuple" => (k_here; kup_bare; k_dflt (refine tuple_s (by k_asm) (by k_asm) ?_ (by kmk_size)); intro _ _ _ _ zl; (try k_lt zl); (try k_sweep))
  k_with "w ktr_enter" => first | (refine enter_s (by k_extra "zC") rfl rfl (by first | assumption | exact rfl) (by k_is) (by k_is) (by ktr_room) (by first | exact BindsTo.of_eq rfl | exact binds_K (by k_in) rfl (by k_is) rfl rfl rfl) (by exact locs rfl) (by rfl) ?_ (by rfl) (by rfl) (by rfl) (by decide); k_whole; intro _ _ _ _ _ _ _ _ _ _ _ _; (try dsimp only); (try k_fold)) | (refine enterC_s (by k_extra "zC") rfl rfl (by first | assumption | exact rfl) (by k_is) (by k_is) (by ktr_room) (by first | exact BindsTo.of_eq rfl | exact binds_K (by k_in) rfl (by k_is) rfl rfl rfl) (by rfl) (by decide +kernel) ?_ (by rfl) (by rfl) (by rfl); k_whole; intro _ _ _ _ _ _ _ _ _ zN zY _ _ _ zl; (try k_lt zl); k_cells zY; (try simp only [List.cons_append, List.nil_append] at zN); (try dsimp only); (try k_fold))
  k_with "w getAttr ref" => (k_here; (with_reducible show wpAny _ _ (getAttr (Value.ref (AD.x (TS.A _ _))) _ _) _ _ _); first | ((with_reducible (first | apply rs_number | apply rs_sort | apply rs_parent | apply rs_left | apply rs_top | apply rs_width | apply rs_height)); (next => k_extra "zP"); intro _ _) | ((with_reducible (apply rs_children)); (next => k_extra "zP"); intro _) | ((with_reducible (first | apply rs_buffer | apply rs_start | apply rs_point | apply rs_hscroll)); (next => k_extra "zP"); intro _ _ _) | ((with_reducible (apply rs_earlier)); (next => k_extra "zP"); intro _ _ _ _))
  k_with "w getAttr ref" => (k_here; (with_reducible show wpAny _ _ (getAttr (Value.ref (TS.x _)) _ _) _ _ _); first | ((with_reducible (apply rs_t_windows)); (next => k_extra "zQ"); intro _) | ((with_reducible (first | apply rs_t_root | apply rs_t_selected | apply rs_t_last | apply rs_t_least_width | apply rs_t_least_height)); (next => k_extra "zQ"); intro _ _) | ((with_reducible (apply rs_t_clock)); (next => k_extra "zQ"); intro _ _ _))
  k_with "w getMethod ref" => (k_here; (with_reducible show wpAny _ _ (getMethod (Value.ref (AD.x (TS.A _ _))) _ _) _ _ _); ((with_reducible (first | apply ms_size | apply ms_set_size | apply ms_place | apply ms_shown | apply ms_show)); (next => k_extra "zP")))
  k_with "w getMethod ref" => (k_here; (with_reducible show wpAny _ _ (getMethod (Value.ref (TS.x _)) _ _) _ _ _); ((with_reducible (first | apply ms_t_window | apply ms_t_leaf | apply ms_t_touch | apply ms_t_fresh | apply ms_t_select | apply ms_t_least_leaf)); (next => k_extra "zQ")))
  k_with "w k_all" => first | assumption | exact all_succ (by assumption) | exact all_succ2 (by assumption)
  k_with "w subscriptTail" => (k_here; (with_reducible apply it_tail); (next => k_asm); (next => k_extra "zT"); rotate_left; (next => with_unfolding_all rfl))
  k_with "w getItem ref int" => (k_here; (with_reducible apply it_get); (next => k_asm); (next => k_extra "zT"); (next => k_extra "zn"))
  k_with "w getMethod ref" => (k_here; (with_reducible apply it_getm); (next => k_asm); (next => k_extra "zT"))
  k_with "w call builtin:dict.get" => (k_here; (with_reducible apply it_get2); (next => k_asm); (next => k_extra "zT"); (next => k_extra "zn"))
  k_with "w setAttr ref" => (k_here; (with_reducible show wpAny _ _ (setAttr (Value.ref (AD.x (TS.A _ _))) _ (Value.int _ _)) _ _ _); ((with_reducible (first | apply ws_parent | apply ws_left | apply ws_top | apply ws_width | apply ws_height | apply ws_buffer | apply ws_start | apply ws_point | apply ws_hscroll | apply ws_use_time)); (next => k_extra "zP"); intro _ _ _ _ _ _; (try k_sweep)))
  k_with "w setAttr ref" => (k_here; (with_reducible show wpAny _ _ (setAttr (Value.ref (TS.x _)) _ (Value.int _ _)) _ _ _); ((with_reducible (first | apply ws_t_last | apply ws_t_clock | apply ws_t_root | apply ws_t_selected)); (next => k_extra "zX"); intro _ _ _ _ _ _; (try k_sweep)))
  k_with "w exec Raise some none" => (first | (exfalso; omega) | (k_here; (with_reducible show wpAny _ _ (exec (Stmt.Raise (some (Expr.Call (Expr.Name (Str.ofString "LispSignal") _) _ _ _)) none _) _) _ _ _); k_dflt (refine raise_K rfl ?_)))
  k_with "w call ref" => (k_here; k_dflt (refine exc_call (by k_asm) (by k_asm) (by k_asm) ?_); intro _ _ _ _ _ _; refine wpAny_call ?_; k_dflt ktr_enter)
  k_with "w setAttr ref" => (k_here; (with_reducible show wpAny _ _ (setAttr (Value.ref _) (Str.ofString "symbol") _) _ _ _); k_dflt (refine exc_store0 (by k_asm) (by k_asm) (by k_asm) (by assumption) (by exact (sig_facts _).2.2.2.1) (by exact lk_exc _ (.inl rfl)) ?_); intro _ _ _ _ _ _ _ _ _)
  k_with "w setAttr ref" => (k_here; (with_reducible show wpAny _ _ (setAttr (Value.ref _) (Str.ofString "data") _) _ _ _); k_dflt (refine exc_store1 (by k_asm) (by k_asm) (by k_asm) (by assumption) (by assumption) (by assumption) (by assumption) (by exact (sig_facts _).2.2.2.2.1) (by exact lk_exc _ (.inr rfl)) ?_ (by exact Within.cons _ _ Within.nil) (by (rw [sizeLine_eq]; decide))); intro _ _ _ _ _ _)
  k_with "w RaiseK" => (k_here; k_dflt (refine raiseK_intro (by k_asm) (by k_asm) (by k_asm) (by k_mem) ?_))
  k_with "w And" => ((with_reducible show Value.none = Value.none ∧ _); refine ⟨rfl, ?_⟩)
  k_with "zh" => first | exact rfl | assumption
  k_with "zp" => first | k_extra "zT" | exact trivial
  trivial
theorem comb_root_ok {w : World} {mean : ExcName → Option Value} {mg mb : Str → Option Value} (S : TS) (tx : Addr) (hx : S.x = tx) (n : Int) (hn : n ∈ S.dom) (t : Tok) (ax : Int) (ta : Tok) (hnew : S.last + 1 ∉ S.dom) (hsz : S.dom.length < 1000) (hna : n ≠ S.last + 1) (hp : (S.W n).parent = 0) :
    CallOk w mean mg mb (.ref 332) [.ref tx, .int n t, .int ax ta] 30 600 (fun news => TreeIn w news S) (fun news news' v => ∃ S', CombR S S' n ax ∧ TreeIn w news' S' ∧ ∃ t, v = .int (S.last + 1) t) := by
  subst hx
  unfold CallOk
  k_fill
  intro dp un gd cn cs a ccd cl outer A₀ base h₀ L m news s Q E B F X N Tp hk hT hd hu hret
  refine wpAny_call ?_
  k_dflt ktr_enter
  k_with "call ref" =>
    first
    | (with_reducible show wpAny _ _ (call (Value.ref 182) _) _ _ _)
      ktr_call 0 (sort_along_ok _ _)
      intro r' news' h' tk' F' N' P'
      obtain ⟨rfl, tk9, rfl⟩ := P'
      (try dsimp only)
    | (with_reducible show wpAny _ _ (call (Value.ref 119) _) _ _ _)
      ktr_call 0 (fresh2_ok S _ rfl _ _ _ _ hnew hsz)
      intro r' news' h' tk' F' N' P'
      obtain ⟨S1, R1, hT9, rfl⟩ := P'
      have hx1 := R1.x
      have hd1 := R1.d
      have hA1 := R1.A n hna
      have hn1 : n ∈ S1.dom := by rw [R1.dom]; exact .tail _ hn
      have ha1 : S.last + 1 ∈ S1.dom := by rw [R1.dom]; exact .head _
      (try dsimp only)
    | refine stop ?_
  k_steps
  · exfalso; omega
  refine go ?_
  (with_reducible show wpAny _ _ (call (Value.ref 119) _) _ _ _)
  ktr_call 0 (fresh2_ok S _ rfl _ _ _ _ hnew hsz)
  intro r' news' h' tk' F' N' P'
  obtain ⟨S1, R1, hT9, rfl⟩ := P'
  have hx1 := R1.x
  have hd1 := R1.d
  have hA1 := R1.A n hna
  have hn1 : n ∈ S1.dom := by rw [R1.dom]; exact .tail _ hn
  have ha1 : S.last + 1 ∈ S1.dom := by rw [R1.dom]; exact .head _
  (try dsimp only)

  k_steps
  refine go ?_
  rename TreeIn _ _ _ => lT5
  refine shut ?_
  intro G9 hG9
  obtain ⟨S5, hS5, lT6⟩ := absS lT5
  obtain ⟨c9, hWa9⟩ := R1.Wa
  refine hG9 ?_
  have e1 : S1.W n = S.W n := R1.Wo n hna
  have f1 : S5.W n = S.W n := by rw [hS5]; simp only [upd_ne _ _ hna, e1]
  have f2 : S5.W (S.last + 1) = ⟨c9, sortI ax, (S.W n).parent, (S.W n).left, (S.W n).top, (S.W n).width, (S.W n).height, []⟩ := by rw [hS5]; simp only [upd_same, upd_ne _ _ hna, hWa9, e1]
  have f3 : ∀ m, m ≠ S.last + 1 → S5.W m = S.W m := fun m hm => by rw [hS5]; simp only [upd_ne _ _ hm]; exact R1.Wo m hm
  have f4 : S5.x = S.x := by rw [hS5]; exact hx1
  have f5 : S5.d = S.d := by rw [hS5]; exact hd1
  have f6 : S5.A = S1.A := by rw [hS5]
  have f7 : S5.dom = S1.dom := by rw [hS5]
  have f8 : S5.root = S1.root := by rw [hS5]
  have f9 : S5.last = S1.last := by rw [hS5]
  have f10 : S5.selected = S1.selected := by rw [hS5]
  have f11 : S5.ex = S1.ex := by rw [hS5]
  clear hS5 lT5 hT9
  have hA5 : S5.A (S.last + 1) = S1.A (S.last + 1) := by rw [f6]
  have hA6 : S5.A n = S.A n := by rw [f6]; exact hA1
  have hn5 : n ∈ S5.dom := by rw [f7]; exact hn1
  have ha5 : S.last + 1 ∈ S5.dom := by rw [f7]; exact ha1
  (with_reducible show wpAny _ _ (call (Value.ref 210) _) _ _ _)
  ktr_call 0 (replace_root_ok S5 _ f4 n (S.last + 1) hn5 ha5 (by rw [f1]; exact hp) _ _)
  intro r' news' h' tk' F' N' P'
  obtain ⟨hT7, rfl⟩ := P'
  (try dsimp only)
  k_steps
  rename TreeIn _ _ _ => lT7
  rename ∀ p ∈ _, _ < _ => lA7
  have hT8 := lT7.keep (listOf [.int n t].toArray 0) (fun p hp => Nat.ne_of_lt (lA7 p hp))
  k_dflt (refine' wr_children ?wF ?wX ?wN hT8 ?wn ?wA (.head _) (IntsAre.cons n t .nil) ?_)
  case wF => k_asm
  case wX => k_asm
  case wN => k_asm
  case wn => exact ha5
  case wA => exact hA5
  intro h9 news9 F9 N9 hT9
  obtain ⟨S9, hS9, hT10⟩ := absS (hT9.drop (ex' := S5.ex) (fun p hp => mem_off (.tail _ hp) (Nat.ne_of_lt (lA7 p (lT7.ex hp)))))
  have hA9 : S9.A (S.last + 1) = S1.A (S.last + 1) := by rw [hS9]; exact hA5
  have ha9 : S.last + 1 ∈ S9.dom := by rw [hS9]; exact ha5
  k_steps
  have hna' := Ne.symm hna
  refine hret _ _ _ _ (by assumption) (by assumption) ⟨S9, ⟨?_, ?_, ?_, ?_, ?_, ?_, ?_, ⟨(S9.W (S.last + 1)).c, ?_⟩, ?_, fun h => absurd hp h, ?_, ?_⟩, hT10, ktn_int rfl⟩
  · rw [hS9]; exact f4
  · rw [hS9]; exact f5
  · rw [hS9]; exact f9.trans R1.last
  · rw [hS9, if_pos hp]
  · rw [hS9]; exact f10.trans R1.sel
  · rw [hS9]; exact f7.trans R1.dom
  · intro m hm; rw [hS9]; show S5.A m = S.A m; rw [f6]; exact R1.A m hm
  · rw [hS9]; simp only [upd_same, upd_ne _ _ hna', f1, f2]
  · rw [hS9]; simp only [upd_same, upd_ne _ _ hna, f1]
  · intro m h1 h2 h3; rw [hS9]; simp only [upd_ne _ _ h1, upd_ne _ _ h2, f3 m h1]
  · rw [hS9]; exact f11.trans R1.ex


theorem comb_kid_ok {w : World} {mean : ExcName → Option Value} {mg mb : Str → Option Value} (S : TS) (tx : Addr) (hx : S.x = tx) (n : Int) (hn : n ∈ S.dom) (t : Tok) (ax : Int) (ta : Tok) (hnew : S.last + 1 ∉ S.dom) (hsz : S.dom.length < 1000) (hna : n ≠ S.last + 1) (p : Int) (hp : (S.W n).parent = p) (hp0 : p ≠ 0) (hpd : p ∈ S.dom) (hpn : p ≠ n) (hs : alongI (S.W p).sort ≠ ax) (i : Nat) (hi : (S.W p).kids[i]? = some n) (hnd : (S.W p).kids.Nodup) (hz : (S.W p).kids.length ≤ 1000) :
    CallOk w mean mg mb (.ref 332) [.ref tx, .int n t, .int ax ta] 30 600 (fun news => TreeIn w news S) (fun news news' v => ∃ S', CombR S S' n ax ∧ TreeIn w news' S' ∧ ∃ t, v = .int (S.last + 1) t) := by
  subst hx
  subst hp
  unfold CallOk
  k_fill
  intro dp un gd cn cs a ccd cl outer A₀ base h₀ L m news s Q E B F X N Tp hk hT hd hu hret
  refine wpAny_call ?_
  k_dflt ktr_enter
  k_with "exec Return some" => (exfalso; omega)
  k_with "call ref" =>
    first
    | (exfalso; omega)
    | (with_reducible show wpAny _ _ (call (Value.ref 175) _) _ _ _)
      ktr_call 0 (along_ok _ _)
      intro r' news' h' tk' F' N' P'
      obtain ⟨rfl, tk9, rfl⟩ := P'
      (try dsimp only)
      (try simp only [AllLt, and_true] at l9)
      (try simp only [AllLt, and_true] at hl')
    | (with_reducible show wpAny _ _ (call (Value.ref 182) _) _ _ _)
      ktr_call 0 (sort_along_ok _ _)
      intro r' news' h' tk' F' N' P'
      obtain ⟨rfl, tk9, rfl⟩ := P'
      (try dsimp only)
    | (with_reducible show wpAny _ _ (call (Value.ref 119) _) _ _ _)
      ktr_call 0 (fresh2_ok S _ rfl _ _ _ _ hnew hsz)
      intro r' news' h' tk' F' N' P'
      obtain ⟨S1, R1, hT9, rfl⟩ := P'
      have hx1 := R1.x
      have hd1 := R1.d
      have hA1 := R1.A n hna
      have hn1 : n ∈ S1.dom := by rw [R1.dom]; exact .tail _ hn
      have ha1 : S.last + 1 ∈ S1.dom := by rw [R1.dom]; exact .head _
      (try dsimp only)
    | refine stop ?_
  have hpa : (S.W n).parent ≠ S.last + 1 := fun e => hnew (e ▸ hpd)
  have hpa' := Ne.symm hpa
  have hpn' := Ne.symm hpn
  k_steps
  refine go ?_
  (with_reducible show wpAny _ _ (call (Value.ref 119) _) _ _ _)
  ktr_call 0 (fresh2_ok S _ rfl _ _ _ _ hnew hsz)
  intro r' news' h' tk' F' N' P'
  obtain ⟨S1, R1, hT9, rfl⟩ := P'
  have hx1 := R1.x
  have hd1 := R1.d
  have hA1 := R1.A n hna
  have hn1 : n ∈ S1.dom := by rw [R1.dom]; exact .tail _ hn
  have ha1 : S.last + 1 ∈ S1.dom := by rw [R1.dom]; exact .head _
  (try dsimp only)

  k_steps
  refine go ?_
  rename TreeIn _ _ _ => lT5
  refine shut ?_
  intro G9 hG9
  obtain ⟨S5, hS5, lT6⟩ := absS lT5
  obtain ⟨c9, hWa9⟩ := R1.Wa
  refine hG9 ?_
  have e1 : S1.W n = S.W n := R1.Wo n hna
  have f1 : S5.W n = S.W n := by rw [hS5]; simp only [upd_ne _ _ hna, e1]
  have f2 : S5.W (S.last + 1) = ⟨c9, sortI ax, (S.W n).parent, (S.W n).left, (S.W n).top, (S.W n).width, (S.W n).height, []⟩ := by rw [hS5]; simp only [upd_same, upd_ne _ _ hna, hWa9, e1]
  have f3 : ∀ m, m ≠ S.last + 1 → S5.W m = S.W m := fun m hm => by rw [hS5]; simp only [upd_ne _ _ hm]; exact R1.Wo m hm
  have f4 : S5.x = S.x := by rw [hS5]; exact hx1
  have f5 : S5.d = S.d := by rw [hS5]; exact hd1
  have f6 : S5.A = S1.A := by rw [hS5]
  have f7 : S5.dom = S1.dom := by rw [hS5]
  have f8 : S5.root = S1.root := by rw [hS5]
  have f9 : S5.last = S1.last := by rw [hS5]
  have f10 : S5.selected = S1.selected := by rw [hS5]
  have f11 : S5.ex = S1.ex := by rw [hS5]
  clear hS5 lT5 hT9
  have hA5 : S5.A (S.last + 1) = S1.A (S.last + 1) := by rw [f6]
  have hA6 : S5.A n = S.A n := by rw [f6]; exact hA1
  have hn5 : n ∈ S5.dom := by rw [f7]; exact hn1
  have ha5 : S.last + 1 ∈ S5.dom := by rw [f7]; exact ha1
  have hpd5 : (S.W n).parent ∈ S5.dom := by rw [f7, R1.dom]; exact .tail _ hpd
  have f12 : S5.W (S.W n).parent = S.W (S.W n).parent := f3 _ hpa
  (with_reducible show wpAny _ _ (call (Value.ref 210) _) _ _ _)
  ktr_call 0 (replace_kid_ok S5 _ f4 n (S.last + 1) (S.W n).parent hn5 ha5 (by rw [f1]) hp0 hpd5 hpa i (by rw [f12]; exact hi) (by rw [f12]; exact hnd) (by rw [f12]; exact hz) _ _)
  intro r' news' h' tk' F' N' P'
  obtain ⟨hT7, rfl⟩ := P'
  (try dsimp only)
  k_steps
  rename TreeIn _ _ _ => lT7
  rename ∀ p ∈ _, _ < _ => lA7
  have hT8 := lT7.keep (listOf [.int n t].toArray 0) (fun p hp => Nat.ne_of_lt (lA7 p hp))
  k_dflt (refine' wr_children ?wF ?wX ?wN hT8 ?wn ?wA (.head _) (IntsAre.cons n t .nil) ?_)
  case wF => k_asm
  case wX => k_asm
  case wN => k_asm
  case wn => exact ha5
  case wA => exact hA5
  intro h9 news9 F9 N9 hT9
  obtain ⟨S9, hS9, hT10⟩ := absS (hT9.drop (ex' := S5.ex) (fun p hp => mem_off (.tail _ hp) (Nat.ne_of_lt (lA7 p (lT7.ex hp)))))
  have hA9 : S9.A (S.last + 1) = S1.A (S.last + 1) := by rw [hS9]; exact hA5
  have ha9 : S.last + 1 ∈ S9.dom := by rw [hS9]; exact ha5
  k_steps
  have hna' := Ne.symm hna
  refine hret _ _ _ _ (by assumption) (by assumption) ⟨S9, ⟨?_, ?_, ?_, ?_, ?_, ?_, ?_, ⟨(S9.W (S.last + 1)).c, ?_⟩, ?_, ?_, ?_, ?_⟩, hT10, ktn_int rfl⟩
  · rw [hS9]; exact f4
  · rw [hS9]; exact f5
  · rw [hS9]; exact f9.trans R1.last
  · rw [hS9, if_neg hp0]; exact f8.trans R1.root
  · rw [hS9]; exact f10.trans R1.sel
  · rw [hS9]; exact f7.trans R1.dom
  · intro m hm; rw [hS9]; show S5.A m = S.A m; rw [f6]; exact R1.A m hm
  · rw [hS9]; simp only [upd_same, upd_ne _ _ hna', upd_ne _ _ hpa', f1, f2]
  · rw [hS9]; simp only [upd_same, upd_ne _ _ hna, upd_ne _ _ hpn', f1]
  · intro _ j hj; rw [hS9, idx_unique hnd hj hi]; simp only [upd_same, upd_ne _ _ hpa, upd_ne _ _ hpn, f12]
  · intro m h1 h2 h3; rw [hS9]; simp only [upd_ne _ _ h1, upd_ne _ _ h2, upd_ne _ _ (h3 hp0), f3 m h1]
  · rw [hS9]; exact f11.trans R1.ex
end
section
def nx (W : Int → WR) (s m x : Int) : Int := if alongI s = 0 then x + (W m).width else x
def ny (W : Int → WR) (s m y : Int) : Int := if alongI s = 0 then y else y + (W m).height
/-- every node of the forest stands where it is to stand -/
def Placed (W W' : Int → WR) : Int → Fo → Int → Int → Prop
  | _, .nil, _, _ => True
  | s, .cons n k r, x, y => W' n = { W n with left := x, top := y } ∧ Placed W W' (W n).sort k x y ∧ Placed W W' s r (nx W s n x) (ny W s n y)
structure PN where
  n : Int
  k : Fo
  x : Int
  y : Int
def PN.all (q : PN) : List Int := q.n :: q.k.all
def pall (l : List PN) : List Int := l.flatMap PN.all
def kidsP (W : Int → WR) : Int → Fo → Int → Int → List PN
  | _, .nil, _, _ => []
  | s, .cons n k r, x, y => ⟨n, k, x, y⟩ :: kidsP W s r (nx W s n x) (ny W s n y)
def PlacedT (W W' : Int → WR) (q : PN) : Prop := W' q.n = { W q.n with left := q.x, top := q.y } ∧ Placed W W' (W q.n).sort q.k q.x q.y
theorem placed_kids (W W' : Int → WR) : ∀ (s : Int) (k : Fo) (x y : Int), (∀ q ∈ kidsP W s k x y, PlacedT W W' q) → Placed W W' s k x y
  | _, .nil, _, _, _ => trivial
  | s, .cons n k r, x, y, h => ⟨(h _ (.head _)).1, (h _ (.head _)).2, placed_kids W W' s r _ _ fun q hq => h q (.tail _ hq)⟩
theorem pall_kids (W : Int → WR) : ∀ (s : Int) (k : Fo) (x y : Int), pall (kidsP W s k x y) = k.all
  | _, .nil, _, _ => rfl
  | s, .cons n k r, x, y => by
    simp only [kidsP, pall, List.flatMap_cons, PN.all, Fo.all, List.cons_append]
    have := pall_kids W s r (nx W s n x) (ny W s n y)
    rw [pall] at this
    rw [this]
theorem pall_app (a b : List PN) : pall (a ++ b) = pall a ++ pall b := by simp [pall]
def psize (l : List PN) : Nat := (l.map fun q => 1 + q.k.size).sum
theorem psize_app (a b : List PN) : psize (a ++ b) = psize a + psize b := by simp [psize]
theorem psize_kids (W : Int → WR) : ∀ (s : Int) (k : Fo) (x y : Int), psize (kidsP W s k x y) = k.size
  | _, .nil, _, _ => rfl
  | s, .cons n k r, x, y => by
    simp only [kidsP, psize, List.map_cons, List.sum_cons, Fo.size]
    have := psize_kids W s r (nx W s n x) (ny W s n y)
    rw [psize] at this
    lia
theorem kids_len (W : Int → WR) : ∀ (s : Int) (k : Fo) (x y : Int), (kidsP W s k x y).length ≤ k.size
  | _, .nil, _, _ => Nat.le_refl _
  | s, .cons n k r, x, y => by
    have := kids_len W s r (nx W s n x) (ny W s n y)
    simp only [kidsP, List.length_cons, Fo.size]; lia
theorem plen (l : List PN) : l.length ≤ psize l := by
  induction l with
  | nil => exact Nat.le_refl _
  | cons q l ih =>
    have e : psize (q :: l) = 1 + q.k.size + psize l := by simp [psize]
    rw [e, List.length_cons]; lia
def POk (W : Int → WR) (q : PN) : Prop := (W q.n).kids = q.k.nums ∧ q.k.Ok W
theorem pok_kids (W : Int → WR) : ∀ (s : Int) (k : Fo) (x y : Int), k.Ok W → ∀ q ∈ kidsP W s k x y, POk W q
  | s, .cons n k r, x, y, ⟨a, _, b, c⟩, q, h => by
    rcases List.mem_cons.mp h with rfl | h
    · exact ⟨a, b⟩
    · exact pok_kids W s r _ _ c q h
/-- the places' loop, its pure part -/
structure PInv (S : TS) (W' : Int → WR) (r : Int) (k : Fo) (pend : List PN) : Prop where
  all : ∀ V : Int → WR, (∀ m, m ∉ pall pend → V m = W' m) → (∀ q ∈ pend, PlacedT S.W V q) → PlacedT S.W V ⟨r, k, 0, 0⟩
  same : ∀ m ∈ pall pend, W' m = S.W m
  nod : (pall pend).Nodup
  dom : ∀ m ∈ pall pend, m ∈ S.dom
  ok : ∀ q ∈ pend, POk S.W q
  off : ∀ m, m ∉ r :: k.all → W' m = S.W m
  sub : ∀ m ∈ pall pend, m ∈ r :: k.all
  kids : ∀ m, (W' m).kids = (S.W m).kids ∧ (W' m).sort = (S.W m).sort ∧ (W' m).width = (S.W m).width ∧ (W' m).height = (S.W m).height ∧ (W' m).c = (S.W m).c
theorem PInv.start {S : TS} {r : Int} {k : Fo} (hOk : (Fo.cons r k .nil).Ok S.W) (hnd : (r :: k.all).Nodup) (hdom : ∀ m ∈ r :: k.all, m ∈ S.dom) : PInv S S.W r k [⟨r, k, 0, 0⟩] := by
  have e : pall [⟨r, k, 0, 0⟩] = r :: k.all := by simp [pall, PN.all]
  refine ⟨fun V _ h => h _ (.head _), fun _ _ => rfl, by rw [e]; exact hnd, by rw [e]; exact hdom, fun q hq => ?_, fun _ _ => rfl, by rw [e]; exact fun _ h => h, fun _ => ⟨rfl, rfl, rfl, rfl, rfl⟩⟩
  rw [List.mem_singleton.mp hq]
  exact ⟨hOk.1, hOk.2.2.1⟩
theorem PInv.step {S : TS} {W' : Int → WR} {r : Int} {k : Fo} {pre : List PN} {q : PN} (H : PInv S W' r k (pre ++ [q])) :
    PInv S (upd W' q.n { W' q.n with left := q.x, top := q.y }) r k (pre ++ kidsP S.W (S.W q.n).sort q.k q.x q.y) := by
  have e1 : pall (pre ++ [q]) = pall pre ++ (q.n :: q.k.all) := by simp [pall, PN.all]
  have e2 : pall (pre ++ kidsP S.W (S.W q.n).sort q.k q.x q.y) = pall pre ++ q.k.all := by rw [pall_app, pall_kids]
  have hnd := H.nod
  rw [e1] at hnd
  have hq1 : q.n ∉ pall pre ++ q.k.all := by
    intro h
    rw [List.nodup_append] at hnd
    obtain ⟨_, h2, h3⟩ := hnd
    rcases List.mem_append.mp h with h | h
    · exact h3 _ h _ (.head _) rfl
    · exact (List.nodup_cons.mp h2).1 h
  have hsub : ∀ m ∈ pall pre ++ q.k.all, m ∈ pall (pre ++ [q]) := by
    intro m h
    rw [e1]
    rcases List.mem_append.mp h with h | h
    · exact List.mem_append_left _ h
    · exact List.mem_append_right _ (.tail _ h)
  have hqm : q.n ∈ pall (pre ++ [q]) := by rw [e1]; exact List.mem_append_right _ (.head _)
  refine ⟨fun V h1 h2 => H.all V (fun m hm => ?_) fun p hp => ?_, fun m hm => ?_, ?_, fun m hm => ?_, fun p hp => ?_, fun m hm => ?_, fun m hm => ?_, fun m => ?_⟩
  · have hmq : m ≠ q.n := fun e => hm (e ▸ hqm)
    rw [h1 m (fun h => by rw [e2] at h; exact hm (hsub m h)), upd_ne _ _ hmq]
  · rcases List.mem_append.mp hp with hp | hp
    · exact h2 p (List.mem_append_left _ hp)
    · rw [List.mem_singleton.mp hp]
      refine ⟨?_, placed_kids _ _ _ _ _ _ fun p hp => h2 p (List.mem_append_right _ hp)⟩
      rw [h1 q.n (by rw [e2]; exact hq1), upd_same, H.same _ hqm]
  · rw [e2] at hm
    have hmq : m ≠ q.n := fun e => hq1 (e ▸ hm)
    rw [upd_ne _ _ hmq]
    exact H.same m (hsub m hm)
  · rw [e2]
    rw [List.nodup_append] at hnd ⊢
    exact ⟨hnd.1, (List.nodup_cons.mp hnd.2.1).2, fun a ha b hb => hnd.2.2 a ha b (.tail _ hb)⟩
  · rw [e2] at hm; exact H.dom m (hsub m hm)
  · rcases List.mem_append.mp hp with hp | hp
    · exact H.ok p (List.mem_append_left _ hp)
    · exact pok_kids _ _ _ _ _ (H.ok q (List.mem_append_right _ (.head _))).2 p hp
  · have hmq : m ≠ q.n := fun e => hm (e ▸ H.sub _ hqm)
    rw [upd_ne _ _ hmq]; exact H.off m hm
  · rw [e2] at hm; exact H.sub m (hsub m hm)
  · by_cases e : m = q.n
    · subst e; rw [upd_same]; exact H.kids _
    · rw [upd_ne _ _ e]; exact H.kids m
end
section
inductive Marked : Prop where
  | mk
theorem ne_nil {prog : Program} {w : World} {A : Around} {E : Value → Shared → Prop} {s : Shared} {h₀ : Heap} {L l b : Addr} {all : Led} {vs : List Value} {n n2 : Nat} {Q : Value → Shared → Prop} (N : News h₀ L s.heap all) (hl : (l, listOf vs.toArray n) ∈ all) (hb : (b, listOf #[] n2) ∈ all) (hv : vs ≠ []) (hu : A.units < cLine)
    (h : Q (.bool true) s) : wpAny (model prog w) A (compareOp .NotEq (.ref l) (.ref b)) Q E s := by
  have hz : (vs.toArray.size != (#[] : Array Value).size) = true := by
    cases vs with
    | nil => exact absurd rfl hv
    | cons a r => rfl
  exact cmp_ofNotEq (PySem.SeqAt.RcNeAt.lists_lengths ⟨_, (N _ hl).1, rfl, n, rfl⟩ ⟨_, (N _ hb).1, rfl, n2, rfl⟩ hz hu _ _ _ _ h)
inductive TupsAre (ex : Led) : List Value → List PN → Prop
  | nil : TupsAre ex [] []
  | cons {a : Addr} {q : PN} {t1 t2 t3 : Tok} {vs : List Value} {qs : List PN} : (a, tupleOf [.int q.n t1, .int q.x t2, .int q.y t3]) ∈ ex → TupsAre ex vs qs → TupsAre ex (.ref a :: vs) (q :: qs)
theorem TupsAre.mono {ex ex' : Led} {vs : List Value} {qs : List PN} (h : TupsAre ex vs qs) (hs : ∀ p ∈ ex, p ∈ ex') : TupsAre ex' vs qs := by
  induction h with
  | nil => exact .nil
  | cons m _ ih => exact .cons (hs _ m) ih
theorem TupsAre.append {ex : Led} {vs us : List Value} {qs rs : List PN} (h : TupsAre ex vs qs) (h2 : TupsAre ex us rs) : TupsAre ex (vs ++ us) (qs ++ rs) := by
  induction h with
  | nil => exact h2
  | cons m _ ih => exact .cons m ih
theorem TupsAre.length {ex : Led} {vs : List Value} {qs : List PN} (h : TupsAre ex vs qs) : vs.length = qs.length := by
  induction h with
  | nil => rfl
  | cons m _ ih => rw [List.length_cons, List.length_cons, ih]
theorem TupsAre.last {ex : Led} {q : PN} : ∀ {vs : List Value} {qs : List PN}, TupsAre ex vs (qs ++ [q]) → ∃ us a t1 t2 t3, vs = us ++ [.ref a] ∧ TupsAre ex us qs ∧ (a, tupleOf [.int q.n t1, .int q.x t2, .int q.y t3]) ∈ ex
  | _, [], .cons m h => by cases h; exact ⟨[], _, _, _, _, rfl, .nil, m⟩
  | _, _ :: qs, .cons m h => by
    obtain ⟨us, a, t1, t2, t3, rfl, h1, h2⟩ := TupsAre.last h
    exact ⟨_ :: us, a, t1, t2, t3, rfl, .cons m h1, h2⟩
theorem drop_cons {α : Type} {l : List α} {i : Nat} {a : α} (h : l[i]? = some a) : l.drop i = a :: l.drop (i + 1) := by
  rw [List.drop_eq_getElem?_toList_append, h]; rfl
theorem fo_nil {f : Fo} (h : f.nums = []) : f = .nil := by cases f with | nil => rfl | cons n k s => cases h
theorem fo_cons {f : Fo} {n : Int} {l : List Int} (h : f.nums = n :: l) : ∃ k r, f = .cons n k r ∧ r.nums = l := by
  cases f with
  | nil => cases h
  | cons m k s => cases h; exact ⟨k, s, rfl, rfl⟩
structure QS where
  nw : Led
  W : Int → WR
  ex : Led
  pend : List PN
  wv : List Value
  wn : Nat
def QSP (w : World) (S : TS) (wa : Addr) (r : Int) (k : Fo) (c : QS) : Prop :=
  TreeIn w c.nw { S with W := c.W, ex := c.ex } ∧ (∀ p ∈ c.nw, p.1 ≠ wa) ∧ TupsAre c.ex c.wv c.pend ∧ PInv S c.W r k c.pend ∧ (∀ p ∈ S.ex, p ∈ c.ex) ∧ psize c.pend ≤ 1000
theorem qs_start {w : World} {S : TS} {g h : Heap} {L wa D : Addr} {news : Led} {t1 t2 t3 : Tok} {r : Int} {k : Fo} (hT : TreeIn w news S) (N : News g L h ((wa, listOf #[.ref D] 0) :: (D, tupleOf [.int r t1, .int 0 t2, .int 0 t3]) :: news)) (hD : ∀ p ∈ news, p.1 < D) (hwa : ∀ p ∈ news, p.1 ≠ wa) (hDw : D ≠ wa)
    (hOk : (Fo.cons r k .nil).Ok S.W) (hnd : (r :: k.all).Nodup) (hdom : ∀ m ∈ r :: k.all, m ∈ S.dom) (hsz : 1 + k.size ≤ 1000) :
    ∃ c : QS, News g L h ((wa, listOf c.wv.toArray c.wn) :: c.nw) ∧ QSP w S wa r k c :=
  ⟨⟨(D, tupleOf [.int r t1, .int 0 t2, .int 0 t3]) :: news, S.W, (D, tupleOf [.int r t1, .int 0 t2, .int 0 t3]) :: S.ex, [⟨r, k, 0, 0⟩], [.ref D], 0⟩, N, hT.keep _ (fun p hp => Nat.ne_of_lt (hD p hp)),
    List.forall_mem_cons.mpr ⟨hDw, hwa⟩, .cons (.head _) .nil, PInv.start hOk hnd hdom, fun p hp => .tail _ hp, by simp [psize]; omega⟩
structure IS where
  nw : Led
  ex : Led
  pushed : List PN
  rest : Fo
  wv : List Value
  wn : Nat
  l : Int
  t : Int
  tl : Tok
  tt : Tok
def ISP (w : World) (S : TS) (W2 : Int → WR) (wa ca : Addr) (vk : List Value) (nk : Nat) (pre kp : List PN) (s : Int) (ks : List Int) (ex0 : Led) (i : Nat) (c : IS) : Prop :=
  TreeIn w c.nw { S with W := W2, ex := c.ex } ∧ (∀ p ∈ c.nw, p.1 ≠ wa) ∧ TupsAre c.ex c.wv (pre ++ c.pushed) ∧ c.rest.nums = ks.drop i ∧ kp = c.pushed ++ kidsP S.W s c.rest c.l c.t ∧ (∀ p ∈ ex0, p ∈ c.ex) ∧ (ca, listOf vk.toArray nk) ∈ c.nw
def ISK (c : IS) (y : Str) : Option Value := if y = Str.ofString "left" then some (.int c.l c.tl) else some (.int c.t c.tt)
end
section
theorem Fo.nums_all : ∀ f : Fo, ∀ n ∈ f.nums, n ∈ f.all
  | .cons r k s, n, h => by
    rcases List.mem_cons.mp h with rfl | h
    · exact .head _
    · exact .tail _ (List.mem_append_right _ (Fo.nums_all s n h))
theorem is_turn_end {w : World} {S : TS} {W2 : Int → WR} {wa ca a I : Addr} {vk : List Value} {nk z : Nat} {pre kp : List PN} {so m : Int} {ks : List Int} {ex0 : Led} {i : Nat} {c : IS} {h₀ h' : Heap} {L : Addr} {oi : Obj} {x : Str} {stored : List Str} {m₀ m' : Str → Option Value} {s0 : Shared} {tk : Nat} {tm : Tok}
    (hP : ISP w S W2 wa ca vk nk pre kp so ks ex0 i c) (hi : ks[i]? = some m) {l' t' : Int} {tl' tt' : Tok} (F : Fr h₀ L h' m')
    (N : News h₀ L h' ((a, tupleOf [.int m tm, .int c.l c.tl, .int c.t c.tt]) :: (I, oi) :: (wa, listOf (c.wv ++ [Value.ref a]).toArray z) :: c.nw)) (hI : ∀ p ∈ (wa, listOf c.wv.toArray c.wn) :: c.nw, p.1 ≠ I) (ha : ∀ p ∈ c.nw, p.1 ≠ a) (haw : a ≠ wa) (haI : a ≠ I)
    (hl : l' = nx S.W so m c.l) (ht : t' = ny S.W so m c.t)
    (hr1 : m' (Str.ofString "left") = some (.int l' tl')) (hr2 : m' (Str.ofString "top") = some (.int t' tt')) (hr3 : ∀ z, z ≠ Str.ofString "left" → z ≠ Str.ofString "top" → (x :: stored).contains z = false → m' z = m₀ z) :
    FEndM h₀ L I oi (fun c : IS => (wa, listOf c.wv.toArray c.wn) :: c.nw) (x :: stored) (mK [Str.ofString "left", Str.ofString "top"] ISK m₀) (ISP w S W2 wa ca vk nk pre kp so ks ex0 (i + 1)) s0 { s0 with heap := h', toks := tk } := by
  obtain ⟨h1, h2, h3, h4, h5, h6, h7⟩ := hP
  have hr : ∀ z, (x :: stored).contains z = false → m' z = if [Str.ofString "left", Str.ofString "top"].contains z then (if z = Str.ofString "left" then some (.int l' tl') else some (.int t' tt')) else m₀ z := by
    intro z hz
    by_cases e1 : z = Str.ofString "left"
    · rw [e1, hr1]; rfl
    by_cases e2 : z = Str.ofString "top"
    · rw [e2, hr2]; rfl
    rw [hr3 z e1 e2 hz, if_neg]
    simp [e1, e2]
  rw [drop_cons hi] at h4
  obtain ⟨j, r, hf, hr2⟩ := fo_cons h4
  rw [hf, kidsP] at h5
  refine fend_introM ⟨(a, tupleOf [.int m tm, .int c.l c.tl, .int c.t c.tt]) :: c.nw, (a, tupleOf [.int m tm, .int c.l c.tl, .int c.t c.tt]) :: c.ex, c.pushed ++ [⟨m, j, c.l, c.t⟩], r, c.wv ++ [Value.ref a], z, l', t', tl', tt'⟩ F N (.tail _ (.head _)) ?_ ?_ hr ⟨h1.keep _ ha, List.forall_mem_cons.mpr ⟨haw, h2⟩, ?_, hr2, ?_, fun p hp => .tail _ (h6 p hp), .tail _ h7⟩
  · intro p hp
    rcases List.mem_cons.mp hp with rfl | hp
    · exact .tail _ (.tail _ (.head _))
    rcases List.mem_cons.mp hp with rfl | hp
    · exact .head _
    · exact .tail _ (.tail _ (.tail _ hp))
  · intro p hp
    rcases List.mem_cons.mp hp with rfl | hp
    · exact hI (wa, listOf c.wv.toArray c.wn) (.head _)
    rcases List.mem_cons.mp hp with rfl | hp
    · exact haI
    · exact hI p (.tail _ hp)
  · dsimp only
    rw [← List.append_assoc]
    exact (h3.mono fun p hp => .tail _ hp).append (.cons (.head _) .nil)
  · dsimp only
    rw [h5, hl, ht, List.append_assoc]; rfl
end
section
theorem fresh_M12 : True := by
  w_top off
  k_with_none
  k_with "w k_mem" => (with_unfolding_all refine memIn ?_; ktr_member)
  k_with "w units_room" => ktr_units
  k_with "w k_room" => ktr_room
  k_with "zT" => first | assumption | ((refine TreeIn.mono (by assumption) ?_); repeat (first | exact sub_nil | refine sub_tail ?_))
  k_with "zn" => first | assumption | exact .head _ | exact .tail _ (by assumption)
  k_with "zA" => first | k_extra "zx" | exact upd_ne _ _ (by first | assumption | exact Ne.symm (by assumption))
  k_with "zx" => first | with_reducible rfl | assumption
  k_with "zP" => exact ⟨by k_asm, by k_asm, by k_asm, by k_extra "zT", by k_extra "zn", by k_extra "zA"⟩
  k_with "zQ" => exact ⟨by k_asm, by k_asm, by k_asm, by k_extra "zT", by k_extra "zx", by k_extra "zx"⟩
  k_with "zX" => exact ⟨by k_asm, by k_asm, by k_asm, by k_extra "zT", by k_extra "zx"⟩
  k_with "zC" => exact ⟨by k_asm, by k_asm, by k_asm, by k_asm, by k_asm⟩
  k_with "w ktr_room" => first | exact room1 (by assumption) rfl | exact room0 (by assumption) rfl | exact room2 (by assumption) rfl | ((simp +zetaDelta only [depth_under_make, depth_under_kw, depth_in1, depth_deeper, depth_caller, recursionLimit] at *); omega)
  k_with "w ktr_units" => first | exact room0 (by assumption) rfl | exact room1 (by assumption) rfl | (have zcL := cLine_is; (simp +zetaDelta only [units_in1, units_deeper, Around.mark_units, units_caller] at *); omega)
  k_with "zL" => ((try simp only [List.length_reverse, List.length_map, List.length_append, List.length_cons, List.length_nil]); omega)
  k_with "w call builtin:list.pop" => (k_here; k_dflt (refine pop_last (by k_asm) (by k_asm) (by k_upd) (by first | omega | assumption) ?_); intro _ _ _; (try k_sweep))
  k_with "w call builtin:list.extend" => (k_here; (with_reducible show wpAny _ _ (call (Value.builtin _) [Value.ref _, Value.ref _]) _ _ _); k_dflt (refine ext_ints (by k_asm) (by k_asm) (by k_mem) (by k_updF) (by l_ints) (by k_extra "zL") ?_); intro _ _ _ zN; (try dsimp only at zN); (try k_sweep))
  k_with "w setAttr ref" => (k_here; k_dflt (refine set_s (by k_asm) (by k_asm) (by k_asm) (by k_inst) (by rfl) (by k_is) (by k_is) (by k_is) (by k_is) (by k_get) (by k_put) (by k_updF) (by exact Nat.le_of_ble_eq_true rfl) ?_; k_whole); intro _ _ _ _ _; (try k_sweep))
  k_with "w call builtin:list.append" => (k_here; (with_reducible show wpAny _ _ (call (Value.builtin _) [Value.ref _, _]) _ _ _); k_dflt (refine app_any (by k_asm) (by k_asm) (by k_upd) (by first | omega | k_extra "zL") ?_); intro _ _ zN; (try dsimp only at zN); (try k_sweep))
  k_with "w execs cons" => (k_here; first | (refine execs_shut (s := ‹Shared›) ?_; intro _ _ _) | (refine execs_lit ?_; intro _ _ _) | (refine execs_shut0 ?_; intro _ _))
  k_with "w SPost" => first | refine spost_next (by assumption) ?_ | refine spost_ret (by assumption) ?_ | refine spost_cont (by assumption) ?_ | refine spost_brk (by assumption) ?_
  k_with "w CPost" => (refine cpost_of (by assumption) ?_)
  k_with "w WPost" => (dsimp only [WPost])
  k_with "w ksw_same" => (intro zz z3; (simp only [List.contains_cons, List.contains_nil, Bool.or_false, Bool.or_eq_false_iff, beq_eq_false_iff_ne, ne_eq] at z3); first | (simp [z3]; done) | (simp +zetaDelta [z3]; done))
  k_with "w FPost" => (dsimp only [FPost])
  k_with "w execs nil" => with_reducible refine wpAny_execs_nil ?_
  k_with "w call builtin:len" => (k_here; (with_reducible show wpAny _ _ (call (Value.builtin "len") [Value.ref _]) _ _ _); (refine len_ints (by k_asm) (by k_dflt k_mem) (by with_reducible assumption) (by k_extra "zL") ?_); (try simp only [List.length_map]))
  k_with "w eval Dict" => (k_here; k_dflt (refine kdn_str (by rfl) (by k_asm) (by first | k_asm | exact News.nil) (by exact Top.nolimit (by k_asm)) (by rfl) (by rfl) (by exact List.cons_ne_nil _ _) (by exact Nat.le_of_ble_eq_true rfl) ?_); intro zd zh zo zF zN zl zlo zhd; (try k_lt zl))
  k_with "w eval Constant int" => (with_reducible refine const_int_s ?_; intro _)
  k_with "w eval Constant str" => (with_reducible refine const_str_s ?_; intro _)
  k_with "w binaryOp Add int int" => (with_reducible refine add_int_s ?_; intro _)
  k_with "w binaryOp Sub int int" => (with_reducible refine sub_int_s ?_; intro _)
  k_with "w storeName" => (k_here; k_dflt (refine store_s (by k_asm) (by k_asm) ?_ rfl rfl; k_whole); intro _ _ _ _ _; (try k_sweep))
  k_with "w newTuple" => (k_here; kup_bare; k_dflt (refine tuple_s (by k_asm) (by k_asm) ?_ (by kmk_size)); intro _ _ _ _ zl; (try k_lt zl); (try k_sweep))
  k_with "w ktr_enter" => first | (refine enter_s (by k_extra "zC") rfl rfl (by first | assumption | exact rfl) (by k_is) (by k_is) (by ktr_room) (by first | exact BindsTo.of_eq rfl | exact binds_K (by k_in) rfl (by k_is) rfl rfl rfl) (by exact locs rfl) (by rfl) ?_ (by rfl) (by rfl) (by rfl) (by decide); k_whole; intro _ _ _ _ _ _ _ _ _ _ _ _; (try dsimp only); (try k_fold)) | (refine enterC_s (by k_extra "zC") rfl rfl (by first | assumption | exact rfl) (by k_is) (by k_is) (by ktr_room) (by first | exact BindsTo.of_eq rfl | exact binds_K (by k_in) rfl (by k_is) rfl rfl rfl) (by rfl) (by decide +kernel) ?_ (by rfl) (by rfl) (by rfl); k_whole; intro _ _ _ _ _ _ _ _ _ zN zY _ _ _ zl; (try k_lt zl); k_cells zY; (try simp only [List.cons_append, List.nil_append] at zN); (try dsimp only); (try k_fold))
  k_with "w getAttr ref" => (k_here; (with_reducible show wpAny _ _ (getAttr (Value.ref (AD.x (TS.A _ _))) _ _) _ _ _); first | ((with_reducible (first | apply rs_number | apply rs_sort | apply rs_parent | apply rs_left | apply rs_top | apply rs_width | apply rs_height)); (next => k_extra "zP"); intro _ _) | ((with_reducible (apply rs_children)); (next => k_extra "zP"); intro _) | ((with_reducible (first | apply rs_buffer | apply rs_start | apply rs_point | apply rs_hscroll)); (next => k_extra "zP"); intro _ _ _) | ((with_reducible (apply rs_earlier)); (next => k_extra "zP"); intro _ _ _ _))
  k_with "w getAttr ref" => (k_here; (with_reducible show wpAny _ _ (getAttr (Value.ref (TS.x _)) _ _) _ _ _); first | ((with_reducible (apply rs_t_windows)); (next => k_extra "zQ"); intro _) | ((with_reducible (first | apply rs_t_root | apply rs_t_selected | apply rs_t_last | apply rs_t_least_width | apply rs_t_least_height)); (next => k_extra "zQ"); intro _ _) | ((with_reducible (apply rs_t_clock)); (next => k_extra "zQ"); intro _ _ _))
  k_with "w getMethod ref" => (k_here; (with_reducible show wpAny _ _ (getMethod (Value.ref (AD.x (TS.A _ _))) _ _) _ _ _); ((with_reducible (first | apply ms_size | apply ms_set_size | apply ms_place | apply ms_shown | apply ms_show)); (next => k_extra "zP")))
  k_with "w getMethod ref" => (k_here; (with_reducible show wpAny _ _ (getMethod (Value.ref (TS.x _)) _ _) _ _ _); ((with_reducible (first | apply ms_t_window | apply ms_t_leaf | apply ms_t_touch | apply ms_t_fresh | apply ms_t_select | apply ms_t_least_leaf)); (next => k_extra "zQ")))
  k_with "w k_all" => first | assumption | exact all_succ (by assumption) | exact all_succ2 (by assumption)
  k_with "w subscriptTail" => (k_here; (with_reducible apply it_tail); (next => k_asm); (next => k_extra "zT"); rotate_left; (next => with_unfolding_all rfl))
  k_with "w getItem ref int" => (k_here; (with_reducible apply it_get); (next => k_asm); (next => k_extra "zT"); (next => k_extra "zn"))
  k_with "w getMethod ref" => (k_here; (with_reducible apply it_getm); (next => k_asm); (next => k_extra "zT"))
  k_with "w call builtin:dict.get" => (k_here; (with_reducible apply it_get2); (next => k_asm); (next => k_extra "zT"); (next => k_extra "zn"))
  k_with "w setAttr ref" => (k_here; (with_reducible show wpAny _ _ (setAttr (Value.ref (AD.x (TS.A _ _))) _ (Value.int _ _)) _ _ _); ((with_reducible (first | apply ws_parent | apply ws_left | apply ws_top | apply ws_width | apply ws_height | apply ws_buffer | apply ws_start | apply ws_point | apply ws_hscroll | apply ws_use_time)); (next => k_extra "zP"); intro _ _ _ _ _ _; (try k_sweep)))
  k_with "w setAttr ref" => (k_here; (with_reducible show wpAny _ _ (setAttr (Value.ref (TS.x _)) _ (Value.int _ _)) _ _ _); ((with_reducible (first | apply ws_t_last | apply ws_t_clock | apply ws_t_root | apply ws_t_selected)); (next => k_extra "zX"); intro _ _ _ _ _ _; (try k_sweep)))
  k_with "w exec Raise some none" => (first | (exfalso; omega) | (k_here; (with_reducible show wpAny _ _ (exec (Stmt.Raise (some (Expr.Call (Expr.Name (Str.ofString "LispSignal") _) _ _ _)) none _) _) _ _ _); k_dflt (refine raise_K rfl ?_)))
  k_with "w call ref" => (k_here; k_dflt (refine exc_call (by k_asm) (by k_asm) (by k_asm) ?_); intro _ _ _ _ _ _; refine wpAny_call ?_; k_dflt ktr_enter)
  k_with "w setAttr ref" => (k_here; (with_reducible show wpAny _ _ (setAttr (Value.ref _) (Str.ofString "symbol") _) _ _ _); k_dflt (refine exc_store0 (by k_asm) (by k_asm) (by k_asm) (by assumption) (by exact (sig_facts _).2.2.2.1) (by exact lk_exc _ (.inl rfl)) ?_); intro _ _ _ _ _ _ _ _ _)
  k_with "w setAttr ref" => (k_here; (with_reducible show wpAny _ _ (setAttr (Value.ref _) (Str.ofString "data") _) _ _ _); k_dflt (refine exc_store1 (by k_asm) (by k_asm) (by k_asm) (by assumption) (by assumption) (by assumption) (by assumption) (by exact (sig_facts _).2.2.2.2.1) (by exact lk_exc _ (.inr rfl)) ?_ (by exact Within.cons _ _ Within.nil) (by (rw [sizeLine_eq]; decide))); intro _ _ _ _ _ _)
  k_with "w RaiseK" => (k_here; k_dflt (refine raiseK_intro (by k_asm) (by k_asm) (by k_asm) (by k_mem) ?_))
  k_with "w And" => ((with_reducible show Value.none = Value.none ∧ _); refine ⟨rfl, ?_⟩)
  k_with "zh" => first | exact rfl | assumption
  k_with "zp" => first | k_extra "zT" | exact trivial
  trivial
theorem set_places_ok {w : World} {mean : ExcName → Option Value} {mg mb : Str → Option Value} (S : TS) (tx : Addr) (hx : S.x = tx) (r : Int) (k : Fo) (hr : S.root = r) (hOk : (Fo.cons r k .nil).Ok S.W) (hnd : (r :: k.all).Nodup) (hdom : ∀ m ∈ r :: k.all, m ∈ S.dom) (hsz : 1 + k.size ≤ 1000) :
    CallOk w mean mg mb (.ref 318) [.ref tx] 20 400 (fun news => TreeIn w news S) (fun news news' v => ∃ W', TreeIn w news' { S with W := W' } ∧ PlacedT S.W W' ⟨r, k, 0, 0⟩ ∧ (∀ m, m ∉ r :: k.all → W' m = S.W m) ∧ (∀ m, (W' m).kids = (S.W m).kids ∧ (W' m).sort = (S.W m).sort ∧ (W' m).width = (S.W m).width ∧ (W' m).height = (S.W m).height ∧ (W' m).c = (S.W m).c) ∧ v = .none) := by
  subst hx
  subst hr
  unfold CallOk
  k_fill
  intro dp un gd cn cs a ccd cl outer A₀ base h₀ L m news s Q E B F X N Tp hk hT hd hu hret
  refine wpAny_call ?_
  k_dflt ktr_enter
  k_with "exec While Compare cons nil" => refine stop ?_
  k_with "pyIter ref" => refine stop ?_
  k_with "compareOp NotEq ref ref" => (k_dflt (refine' ne_nil ?N ?l ?b ?v ?u ?_; (case N => k_asm); (case l => k_mem); (case b => k_mem); (case v => simp; done); (case u => ktr_units)))
  k_with "setAttr ref int" => ((fail_if_success (rename Marked => mkX)); refine stop ?_)
  k_with "exec For Name Call cons nil" =>
    k_here
    rename Fr _ _ _ _ => lF'
    with_unfolding_all refine' For_invVF lF' ?k1 ?k2 ?_
    case k1 => exact rfl
    case k2 => exact rfl
  k_with "call ref" =>
    first
    | (with_reducible show wpAny _ _ (call (Value.ref 175) _) _ _ _)
      ktr_call 0 (along_ok _ _)
      intro r' news' h' tk' F' N' P'
      obtain ⟨rfl, tk9, rfl⟩ := P'
      (try dsimp only)
      (try simp only [AllLt, and_true] at l9)
      (try simp only [AllLt, and_true] at hl')
  k_steps
  refine go ?_
  rename Fr _ _ _ _ => lF'
  rename News _ _ _ _ => lN'
  rename_i wa wh1 wl1 wh2 wk0 wm0 wk wq wq2
  rename ∀ p ∈ news, _ < _ => lA
  obtain ⟨c0, lN', hP0⟩ := qs_start hT lN' lA (by k_dflt k_all) (by k_ne) hOk hnd hdom hsz
  with_unfolding_all refine' while_by (fun c : QS => (wa, listOf c.wv.toArray c.wn) :: c.nw) [Str.ofString "number", Str.ofString "left", Str.ofString "top", Str.ofString "here", Str.ofString "child"] (QSP w S wa S.root k) (fun c => psize c.pend) c0 lF' lN' hP0 ?turn
  clear lF' lN' hP0
  intro c u h' tk' hP F' N'
  refine shut ?_
  intro G9 hG9
  obtain ⟨nw, W', ex, pend, wv, wn⟩ := c
  obtain ⟨hT1, hne, hTu, hIn, hex, hps⟩ := hP
  refine hG9 ?_
  dsimp only at hT1 hne hTu hIn hex hps N'
  rcases List.eq_nil_or_concat pend with rfl | ⟨pre, q, rfl⟩
  · cases hTu
    k_steps
    exact hret _ _ _ _ (by assumption) (News.sub (l' := nw) (by assumption) (sub_tail (sub_tail sub_nil))) ⟨W', hT1.drop hex, hIn.all W' (fun _ _ => rfl) (fun q h => nomatch h), hIn.off, hIn.kids, rfl⟩
  · simp only [List.concat_eq_append] at hTu hIn hps
    refine shut ?_
    intro G9 hG9
    obtain ⟨us, a9, t1, t2, t3, rfl, hTu', hm⟩ := hTu.last
    refine hG9 ?_
    have hmn := hT1.ex hm
    have hqa : q.n ∈ pall (pre ++ [q]) := by rw [pall_app]; exact List.mem_append_right _ (.head _)
    have hqd : q.n ∈ S.dom := hIn.dom _ hqa
    have hlen := hTu'.length
    have hpl := plen pre
    have hps' := hps
    rw [psize_app] at hps'
    k_with "compareOp NotEq ref ref" => refine stop ?_
    k_steps
    refine go ?_
    k_dflt (refine' ne_nil ?yN ?yl ?yb ?yv ?yu ?_)
    case yN => k_asm
    case yl => k_mem
    case yb => k_mem
    case yv => simp
    case yu => ktr_units
    k_steps
    refine go ?_
    have mk9 : Marked := .mk
    rename News _ _ _ _ => lN9
    refine shut ?_
    intro G9 hG9
    obtain ⟨S8, hS8, hT8⟩ := keepsN 3 lN9 hT1 (by (simp only [List.take_succ_cons, List.take_zero, List.drop_succ_cons, List.drop_zero, List.forall_mem_cons]); exact ⟨by k_dflt k_all, by k_dflt k_all, hne, fun _ h => nomatch h⟩)
    simp only [List.take_succ_cons, List.take_zero, List.cons_append, List.nil_append] at hS8
    subst hS8
    refine hG9 ?_
    k_steps
    refine go ?_
    rename TreeIn _ _ _ => lT9
    rename News _ _ _ _ => lN8
    rename Fr _ _ _ _ => lF7
    dsimp only at lT9 lF7 ⊢
    simp only [upd_same, upd_upd] at lT9 lF7 ⊢
    rename Led => nw8
    have hw9 := lT9.ex (.tail _ (.tail _ (.head _)))
    refine shut ?_
    intro G9 hG9
    obtain ⟨W2, hW2⟩ : ∃ W2, W2 = upd W' q.n { W' q.n with left := q.x, top := q.y } := ⟨_, rfl⟩
    have hT7 : TreeIn w (off wa nw8) { S with W := W2, ex := ex } := by
      rw [hW2]
      exact (lT9.without (.tail _ (.tail _ (.head _)))).drop (ex' := ex) (fun p hp => mem_off (.tail _ (.tail _ (.tail _ hp))) (hne p (hT1.ex hp)))
    have hI2 := hIn.step
    rw [← hW2] at hI2
    have lN7 := news_turn lN8 hw9
    have hc2 : (W2 q.n).c = (W' q.n).c := by rw [hW2, upd_same]
    obtain ⟨vk, nk, hc7, hki⟩ := hT7.wc (n := q.n) hqd
    refine hG9 ?_
    dsimp only at hc7 hki
    rw [hc2] at hc7
    have hkids : (S.W q.n).kids = q.k.nums := (hIn.ok q (List.mem_append_right _ (.head _))).1
    rw [(hI2.kids q.n).1, hkids] at hki
    have hne7 := off_ne (D := wa) (l := nw8)
    clear lT9 lN8 hw9
    (try clear lN9)
    (try clear hT8)
    generalize off wa nw8 = nw7 at hT7 lN7 hc7 hne7
    have hnl : q.k.nums.length ≤ q.k.size := Fo.nums_le q.k
    have hkl := hki.length
    have hP0 : ISP w S W2 wa (W' q.n).c vk nk pre (kidsP S.W (S.W q.n).sort q.k q.x q.y) (S.W q.n).sort q.k.nums ex 0 ⟨nw7, ex, [], q.k, us, wn + 1, q.x, q.y, t2, t3⟩ :=
      ⟨hT7, hne7, by rw [List.append_nil]; exact hTu', rfl, rfl, fun _ h => h, hc7⟩
    with_unfolding_all refine' for_listK (σ := IS) (fun c => (wa, listOf c.wv.toArray c.wn) :: c.nw) [] [Str.ofString "left", Str.ofString "top"] ISK (ISP w S W2 wa (W' q.n).c vk nk pre (kidsP S.W (S.W q.n).sort q.k q.x q.y) (S.W q.n).sort q.k.nums ex) ⟨nw7, ex, [], q.k, us, wn + 1, q.x, q.y, t2, t3⟩ (by rfl) (fun i c h => .tail _ h.2.2.2.2.2.2) lF7 lN7 hP0 ?hk0 ?turn2 ?done2
    case hk0 => (simp only [List.forall_mem_cons]; exact ⟨rfl, rfl, fun _ h => nomatch h⟩)
    case turn2 =>
      clear lF7 lN7 hP0
      intro i v I oi c u h' tk' hv hP hI F' N'
      refine shut ?_
      intro G9 hG9
      obtain ⟨m9, tv, hm9, rfl⟩ := ints_at hki hv
      obtain ⟨nwi, exi, pushed, rest, wvi, wni, li, ti, tli, tti⟩ := c
      have hP' := hP
      obtain ⟨g1, g2, g3, g4, g5, g6, g7⟩ := hP
      refine hG9 ?_
      dsimp only at g1 g2 g3 g4 g5 g6 g7 hI N'
      have hmd : m9 ∈ S.dom := hIn.dom m9 (by rw [pall_app]; exact List.mem_append_right _ (List.mem_flatMap.mpr ⟨q, .head _, .tail _ (Fo.nums_all _ _ (List.mem_of_getElem? hm9))⟩))
      have hIw := neN (hI _ (.head _))
      dsimp only at hIw
      have hwl : wvi.length ≤ 1000 := by
        have e1 := g3.length
        have e2 := congrArg List.length g5
        have e3 := kids_len S.W (S.W q.n).sort q.k q.x q.y
        have e4 : psize [q] = 1 + q.k.size := by simp [psize]
        rw [List.length_append] at e1 e2
        lia
      have hs2 := (hI2.kids q.n).2.1
      have hw2 := (hI2.kids m9).2.2.1
      have hh2 := (hI2.kids m9).2.2.2.1
      k_steps
      all_goals
        dsimp only [FPostM]
        refine' is_turn_end hP' hm9 ?xF ?xN hI ?xa ?xw ?xi ?xl ?xt ?x1 ?x2 ?x3
        case xF => assumption
        case xN => assumption
        case x1 => exact rfl
        case x2 => exact rfl
        case x3 =>
          intro z h1 h2 h3
          simp only [List.contains_cons, List.contains_nil, Bool.or_false, Bool.or_eq_false_iff, beq_eq_false_iff_ne, ne_eq] at h3
          first | (simp [h1, h2, h3]; done) | (simp +zetaDelta [h1, h2, h3]; done)
        case xa => k_dflt k_all
        case xw => k_ne
        case xi => k_ne
        case xl => first | (have hz := ‹alongI (W2 q.n).sort = 0›; rw [hs2] at hz; rw [nx, if_pos hz, hw2]) | (have hz := ‹alongI (W2 q.n).sort ≠ 0›; rw [hs2] at hz; rw [nx, if_neg hz])
        case xt => first | (have hz := ‹alongI (W2 q.n).sort = 0›; rw [hs2] at hz; rw [ny, if_pos hz]) | (have hz := ‹alongI (W2 q.n).sort ≠ 0›; rw [hs2] at hz; rw [ny, if_neg hz, hh2])
    case done2 =>
      clear lF7 lN7 hP0
      intro c u h' tk' hP F' N'
      refine shut ?_
      intro G9 hG9
      obtain ⟨nwi, exi, pushed, rest, wvi, wni, li, ti, tli, tti⟩ := c
      obtain ⟨g1, g2, g3, g4, g5, g6, g7⟩ := hP
      refine hG9 ?_
      dsimp only at g1 g2 g3 g4 g5 g6 g7 N'
      rw [hkl, List.drop_length] at g4
      rw [fo_nil g4, kidsP, List.append_nil] at g5
      k_steps
      refine while_end ⟨nwi, W2, exi, pre ++ pushed, wvi, wni⟩ (by assumption) (by assumption) (by kst_in) (by ksw_same) ⟨g1, g2, g3, by rw [← g5]; exact hI2, fun p hp => g6 p (hex p hp), ?_⟩ ?_
      · rw [← g5, psize_app, psize_kids]; have e4 : psize [q] = 1 + q.k.size := by simp [psize]
        lia
      · dsimp only; rw [← g5, psize_app, psize_kids, List.concat_eq_append, psize_app]; have e4 : psize [q] = 1 + q.k.size := by simp [psize]
        lia
end
section
def Sizes (W : Int → WR) (n : Int) (ks : List Int) : Prop :=
  (ks.map fun m => sizeI (alongI (W n).sort) (W m)).sum = sizeI (alongI (W n).sort) (W n) ∧ ∀ m ∈ ks, sizeI (1 - alongI (W n).sort) (W m) = sizeI (1 - alongI (W n).sort) (W n)
structure Node (W : Int → WR) (n : Int) (k : Fo) : Prop where
  kids : (W n).kids = k.nums
  sort : ((W n).sort = 0 ∧ k = .nil) ∨ (((W n).sort = 1 ∨ (W n).sort = 2) ∧ Sizes W n k.nums)
  wide : 1 ≤ (W n).width
  high : 1 ≤ (W n).height
/-- a forest of windows, their parent and the parent's sort told -/
def Good (W : Int → WR) : Int → Int → Fo → Prop
  | _, _, .nil => True
  | par, s, .cons n k r => (W n).parent = par ∧ (W n).sort ≠ s ∧ Node W n k ∧ Good W n (W n).sort k ∧ Good W par s r
theorem good_ok {W : Int → WR} : ∀ {f : Fo} {par s : Int}, Good W par s f → f.Ok W
  | .nil, _, _, _ => trivial
  | .cons n k r, par, s, ⟨a, b, c, d, e⟩ => ⟨c.kids, fun h => by rcases c.sort with h' | h'; exact h'.2; rcases h'.1 with q | q <;> lia, good_ok d, good_ok e⟩
theorem good_nums {W : Int → WR} : ∀ {f : Fo} {par s : Int}, Good W par s f → ∀ n ∈ f.nums, (W n).parent = par ∧ (W n).sort ≠ s
  | .cons m k r, par, s, ⟨a, b, c, d, e⟩, n, h => by
    rcases List.mem_cons.mp h with rfl | h
    · exact ⟨a, b⟩
    · exact good_nums e n h
theorem good_loc {W : Int → WR} : ∀ {f : Fo} {par s : Int}, Good W par s f → ∀ n ∈ f.all, n ∈ f.nums ∨ ∃ p ∈ f.all, (W n).parent = p ∧ n ∈ (W p).kids
  | .cons m k r, par, s, ⟨a, b, c, d, e⟩, n, h => by
    rcases List.mem_cons.mp h with rfl | h
    · exact .inl (.head _)
    rcases List.mem_append.mp h with h | h
    · rcases good_loc d n h with h1 | ⟨p, hp, h2, h3⟩
      · exact .inr ⟨m, .head _, (good_nums d n h1).1, by rw [c.kids]; exact h1⟩
      · exact .inr ⟨p, .tail _ (List.mem_append_left _ hp), h2, h3⟩
    · rcases good_loc e n h with h1 | ⟨p, hp, h2, h3⟩
      · exact .inl (.tail _ h1)
      · exact .inr ⟨p, .tail _ (List.mem_append_right _ hp), h2, h3⟩
/-- what a node of the forest is -/
theorem good_at {W : Int → WR} : ∀ {f : Fo} {par s : Int}, Good W par s f → f.all.Nodup → ∀ n ∈ f.all, ∃ k, Node W n k ∧ Good W n (W n).sort k ∧ (∀ x ∈ k.all, x ∈ f.all) ∧ (n :: k.all).Nodup ∧ k.size ≤ f.size
  | .cons m k r, par, s, ⟨a, b, c, d, e⟩, hnd, n, h => by
    simp only [Fo.all, List.nodup_cons, List.nodup_append] at hnd
    rcases List.mem_cons.mp h with rfl | h
    · exact ⟨k, c, d, fun x hx => .tail _ (List.mem_append_left _ hx), List.nodup_cons.mpr ⟨fun hx => hnd.1 (List.mem_append_left _ hx), hnd.2.1⟩, by simp only [Fo.size]; lia⟩
    rcases List.mem_append.mp h with h | h
    · obtain ⟨k', h1, h2, h3, h4, h5⟩ := good_at d hnd.2.1 n h
      exact ⟨k', h1, h2, fun x hx => .tail _ (List.mem_append_left _ (h3 x hx)), h4, by simp only [Fo.size]; lia⟩
    · obtain ⟨k', h1, h2, h3, h4, h5⟩ := good_at e hnd.2.2.1 n h
      exact ⟨k', h1, h2, fun x hx => .tail _ (List.mem_append_right _ (h3 x hx)), h4, by simp only [Fo.size]; lia⟩
theorem nums_nodup : ∀ {f : Fo}, f.all.Nodup → f.nums.Nodup
  | .nil, _ => List.nodup_nil
  | .cons m k r, h => by
    simp only [Fo.all, List.nodup_cons, List.nodup_append] at h
    exact List.nodup_cons.mpr ⟨fun hx => h.1 (List.mem_append_right _ (Fo.nums_all' r m hx)), nums_nodup h.2.2.1⟩
where Fo.nums_all' : ∀ f : Fo, ∀ n ∈ f.nums, n ∈ f.all
  | .cons r k s, n, h => by
    rcases List.mem_cons.mp h with rfl | h
    · exact .head _
    · exact .tail _ (List.mem_append_right _ (Fo.nums_all' s n h))

/-- the fields that the forest's words read -/
structure SameC (r r' : WR) : Prop where
  sort : r'.sort = r.sort
  parent : r'.parent = r.parent
  width : r'.width = r.width
  height : r'.height = r.height
  kids : r'.kids = r.kids
theorem SameC.size {r r' : WR} (h : SameC r r') (a : Int) : sizeI a r' = sizeI a r := by unfold sizeI; rw [h.width, h.height]
theorem map_sum_congr {f g : Int → Int} : ∀ {l : List Int}, (∀ x ∈ l, f x = g x) → (l.map f).sum = (l.map g).sum
  | [], _ => rfl
  | x :: l, h => by rw [List.map_cons, List.map_cons, List.sum_cons, List.sum_cons, h x (.head _), map_sum_congr fun y hy => h y (.tail _ hy)]
theorem good_same {W W' : Int → WR} : ∀ {f : Fo} {par s : Int}, Good W par s f → (∀ x ∈ f.all, SameC (W x) (W' x)) → Good W' par s f
  | .nil, _, _, _, _ => trivial
  | .cons n k r, par, s, ⟨a, b, c, d, e⟩, h => by
    have hn := h n (.head _)
    have hk : ∀ x ∈ k.all, SameC (W x) (W' x) := fun x hx => h x (.tail _ (List.mem_append_left _ hx))
    refine ⟨by rw [hn.parent]; exact a, by rw [hn.sort]; exact b, ⟨by rw [hn.kids]; exact c.kids, ?_, by rw [hn.width]; exact c.wide, by rw [hn.height]; exact c.high⟩, ?_, good_same e fun x hx => h x (.tail _ (List.mem_append_right _ hx))⟩
    · rcases c.sort with q | ⟨q, z1, z2⟩
      · exact .inl ⟨by rw [hn.sort]; exact q.1, q.2⟩
      · refine .inr ⟨by rw [hn.sort]; exact q, ?_, ?_⟩
        · rw [hn.sort, hn.size, ← z1]
          exact map_sum_congr fun x hx => (hk x (nums_nodup.Fo.nums_all' k x hx)).size _
        · intro m hm
          rw [hn.sort, hn.size, (hk m (nums_nodup.Fo.nums_all' k m hm)).size]
          exact z2 m hm
    · rw [hn.sort]; exact good_same d hk

/-- the state bears the forest -/
structure Tre (S : TS) (r : Int) (k : Fo) : Prop where
  good : Good S.W 0 3 (.cons r k .nil)
  nod : (r :: k.all).Nodup
  dom : ∀ m ∈ r :: k.all, m ∈ S.dom
  root : S.root = r
  pos : ∀ m ∈ S.dom, 1 ≤ m ∧ m ≤ S.last
  last : 0 ≤ S.last
theorem Tre.all {S : TS} {r : Int} {k : Fo} (H : Tre S r k) : (Fo.cons r k .nil).all = r :: k.all := by simp [Fo.all]
end
section
theorem numsAll (f : Fo) : ∀ n ∈ f.nums, n ∈ f.all := nums_nodup.Fo.nums_all' f
-- a new combination around a leaf
def rep (n a : Int) : Fo → Fo
  | .nil => .nil
  | .cons x k r => if x = n then .cons a (.cons x .nil .nil) (rep n a r) else .cons x (rep n a k) (rep n a r)
def sg (n a x : Int) : Int := if x = n then a else x
theorem rep_nums (n a : Int) : ∀ f : Fo, (rep n a f).nums = f.nums.map (sg n a)
  | .nil => rfl
  | .cons x k r => by
    have := rep_nums n a r
    by_cases e : x = n
    · simp [rep, e, Fo.nums, this, sg]
    · simp [rep, e, Fo.nums, this, sg]
theorem rep_all {n a : Int} : ∀ {f : Fo}, ∀ x ∈ (rep n a f).all, x ∈ f.all ∨ (x = a ∧ n ∈ f.all)
  | .nil, _, h => nomatch h
  | .cons y k r, x, h => by
    unfold rep at h
    split at h
    · rename_i e
      simp only [Fo.all, List.mem_cons, List.mem_append, List.not_mem_nil, List.append_nil, or_false, false_or] at h
      rcases h with h | h | h
      · exact .inr ⟨h, by rw [e]; exact .head _⟩
      · exact .inl (by rw [h]; exact .head _)
      · rcases rep_all x h with h | ⟨h, h2⟩
        · exact .inl (.tail _ (List.mem_append_right _ h))
        · exact .inr ⟨h, .tail _ (List.mem_append_right _ h2)⟩
    · simp only [Fo.all, List.mem_cons, List.mem_append] at h
      rcases h with h | h | h
      · exact .inl (by rw [h]; exact .head _)
      · rcases rep_all x h with h | ⟨h, h2⟩
        · exact .inl (.tail _ (List.mem_append_left _ h))
        · exact .inr ⟨h, .tail _ (List.mem_append_left _ h2)⟩
      · rcases rep_all x h with h | ⟨h, h2⟩
        · exact .inl (.tail _ (List.mem_append_right _ h))
        · exact .inr ⟨h, .tail _ (List.mem_append_right _ h2)⟩
theorem rep_off {n a : Int} : ∀ {f : Fo}, n ∉ f.all → rep n a f = f
  | .nil, _ => rfl
  | .cons y k r, h => by
    simp only [Fo.all, List.mem_cons, List.mem_append, not_or] at h
    unfold rep
    rw [if_neg (fun e => h.1 e.symm), rep_off h.2.1, rep_off h.2.2]
theorem rep_nod {n a : Int} {W : Int → WR} : ∀ {f : Fo} {par s : Int}, Good W par s f → (W n).sort = 0 → f.all.Nodup → a ∉ f.all → (rep n a f).all.Nodup
  | .nil, _, _, _, _, _, _ => List.nodup_nil
  | .cons y k r, par, s, ⟨g1, g2, g3, g4, g5⟩, hs, hnd, ha => by
    simp only [Fo.all, List.nodup_cons, List.mem_append, not_or, List.nodup_append, List.mem_cons] at hnd ha
    have i1 := rep_nod g4 hs hnd.2.1 ha.2.1
    have i2 := rep_nod g5 hs hnd.2.2.1 ha.2.2
    by_cases e : y = n
    · subst e
      have o2 := rep_off (a := a) hnd.1.2
      simp only [rep, if_true, o2, Fo.all, List.nodup_cons, List.nodup_append, List.mem_cons, List.mem_append, not_or, List.not_mem_nil, List.append_nil, List.nil_append, List.cons_append, not_false_eq_true, List.nodup_nil]
      exact ⟨⟨ha.1, ha.2.2⟩, hnd.1.2, hnd.2.2.1⟩
    · simp only [rep, if_neg e, Fo.all, List.nodup_cons, List.nodup_append, List.mem_append, not_or]
      refine ⟨⟨fun h => ?_, fun h => ?_⟩, i1, i2, fun x hx z hz q => ?_⟩
      · rcases rep_all y h with h | ⟨h, _⟩
        · exact hnd.1.1 h
        · exact ha.1 h.symm
      · rcases rep_all y h with h | ⟨h, _⟩
        · exact hnd.1.2 h
        · exact ha.1 h.symm
      · subst q
        rcases rep_all x hx with h1 | ⟨h1, h2⟩ <;> rcases rep_all x hz with h3 | ⟨h3, h4⟩
        · exact hnd.2.2.2 x h1 x h3 rfl
        · exact ha.2.1 (h3 ▸ h1)
        · exact ha.2.2 (h1 ▸ h3)
        · exact hnd.2.2.2 n h2 n h4 rfl
theorem rep_size (n a : Int) : ∀ f : Fo, f.all.Nodup → (rep n a f).size ≤ f.size + 1
  | .nil, _ => Nat.zero_le _
  | .cons y k r, hnd => by
    simp only [Fo.all, List.nodup_cons, List.mem_append, not_or, List.nodup_append] at hnd
    by_cases e : y = n
    · subst e
      rw [rep, if_pos rfl, rep_off hnd.1.2]; simp only [Fo.size]; lia
    · rw [rep, if_neg e]
      by_cases h : n ∈ k.all
      · rw [rep_off (f := r) (fun q => hnd.2.2.2 n h n q rfl)]
        have := rep_size n a k hnd.2.1
        simp only [Fo.size]; lia
      · rw [rep_off h]
        have := rep_size n a r hnd.2.2.1
        simp only [Fo.size]; lia
theorem map_sg {n a : Int} : ∀ {l : List Int}, n ∉ l → l.map (sg n a) = l
  | [], _ => rfl
  | x :: l, h => by
    simp only [List.mem_cons, not_or] at h
    rw [List.map_cons, map_sg h.2, sg, if_neg (fun e => h.1 e.symm)]
theorem set_sg {n a : Int} : ∀ {l : List Int} {i : Nat}, l.Nodup → l[i]? = some n → l.set i a = l.map (sg n a)
  | x :: l, 0, h, hi => by
    simp at hi; subst hi
    rw [List.set_cons_zero, List.map_cons, map_sg (List.nodup_cons.mp h).1, sg, if_pos rfl]
  | x :: l, i + 1, h, hi => by
    have hx : x ≠ n := fun e => by
      subst e
      exact (List.nodup_cons.mp h).1 (List.mem_of_getElem? (by simpa using hi))
    rw [List.set_cons_succ, List.map_cons, set_sg (List.nodup_cons.mp h).2 (by simpa using hi), sg, if_neg hx]
theorem good_rep {W W1 : Int → WR} {n a ax : Int} (hs0 : (W n).sort = 0) (hax : ax = 0 ∨ ax = 1)
    (hn : SameC { W n with parent := a } (W1 n)) (ha : SameC ⟨0, sortI ax, (W n).parent, 0, 0, (W n).width, (W n).height, [n]⟩ (W1 a))
    (hpar : ∀ x, x ≠ 0 → (W n).parent = x → n ∈ (W x).kids → (W x).sort ≠ sortI ax) :
    ∀ {f : Fo} {par s : Int}, Good W par s f → f.all.Nodup → a ∉ f.all → (∀ x ∈ f.all, x ≠ 0) → (n ∈ f.nums → s ≠ sortI ax) → (∀ x ∈ f.all, x ≠ n → SameC { W x with kids := (W x).kids.map (sg n a) } (W1 x)) → Good W1 par s (rep n a f)
  | .nil, _, _, _, _, _, _, _, _ => trivial
  | .cons y k r, par, s, ⟨g1, g2, g3, g4, g5⟩, hnd, haf, h0, hs, ho => by
    simp only [Fo.all, List.nodup_cons, List.mem_append, not_or, List.nodup_append, List.mem_cons] at hnd haf
    have IHr := good_rep hs0 hax hn ha hpar g5 hnd.2.2.1 haf.2.2 (fun x hx => h0 x (.tail _ (List.mem_append_right _ hx))) (fun h => hs (.tail _ h)) (fun x hx => ho x (.tail _ (List.mem_append_right _ hx)))
    have ssort : sortI ax ≠ 0 ∧ (sortI ax = 1 ∨ sortI ax = 2) ∧ alongI (sortI ax) = ax := by
      rcases hax with rfl | rfl <;> simp [sortI, alongI]
    by_cases e : y = n
    · subst e
      rw [rep, if_pos rfl]
      have hal : alongI (W1 a).sort = ax := by rw [ha.sort]; exact ssort.2.2
      refine ⟨by rw [ha.parent]; exact g1, by rw [ha.sort]; exact (hs (.head _)).symm, ⟨by rw [ha.kids]; rfl, .inr ⟨by rw [ha.sort]; exact ssort.2.1, ?_, ?_⟩, by rw [ha.width]; exact g3.wide, by rw [ha.height]; exact g3.high⟩, ⟨hn.parent, ?_, ⟨?_, .inl ⟨by rw [hn.sort]; exact hs0, rfl⟩, by rw [hn.width]; exact g3.wide, by rw [hn.height]; exact g3.high⟩, trivial, trivial⟩, IHr⟩
      · simp only [Fo.nums, List.map_cons, List.map_nil, List.sum_cons, List.sum_nil, Int.add_zero]
        rw [hal, ha.size, hn.size]; rfl
      · intro m hm
        rw [List.mem_singleton.mp hm, hal, ha.size, hn.size]; (try rfl)
      · rw [hn.sort, ha.sort]; show (W y).sort ≠ sortI ax; rw [hs0]; exact ssort.1.symm
      · rw [hn.kids]
        rcases g3.sort with q | q
        · show (W y).kids = _; rw [g3.kids, q.2]; (try rfl)
        · rcases q.1 with z | z <;> lia
    · rw [rep, if_neg e]
      have hy := ho y (.head _) e
      have IHk := good_rep hs0 hax hn ha hpar g4 hnd.2.1 haf.2.1 (fun x hx => h0 x (.tail _ (List.mem_append_left _ hx))) (fun h => hpar y (h0 y (.head _)) (good_nums g4 n h).1 (by rw [g3.kids]; exact h)) (fun x hx => ho x (.tail _ (List.mem_append_left _ hx)))
      have sz : ∀ x ∈ k.nums, ∀ b, sizeI b (W1 (sg n a x)) = sizeI b (W x) := by
        intro x hx b
        unfold sg
        split
        · rename_i q; rw [ha.size, q]; rfl
        · rename_i q; rw [(ho x (.tail _ (List.mem_append_left _ (numsAll k x hx))) q).size]; rfl
      refine ⟨by rw [hy.parent]; exact g1, by rw [hy.sort]; exact g2, ⟨?_, ?_, by rw [hy.width]; exact g3.wide, by rw [hy.height]; exact g3.high⟩, by rw [hy.sort]; exact IHk, IHr⟩
      · rw [hy.kids, rep_nums, ← g3.kids]
      · rcases g3.sort with q | ⟨q, z1, z2⟩
        · exact .inl ⟨by rw [hy.sort]; exact q.1, by rw [q.2]; rfl⟩
        · refine .inr ⟨by rw [hy.sort]; exact q, ?_, ?_⟩
          · rw [hy.sort, hy.size, rep_nums, List.map_map]
            show _ = sizeI _ (W y)
            rw [← z1]
            exact map_sum_congr fun x hx => sz x hx _
          · intro m hm
            rw [rep_nums] at hm
            obtain ⟨x, hx, rfl⟩ := List.mem_map.mp hm
            rw [hy.sort, hy.size, sz x hx]
            exact z2 x hx
end
section
-- a window beside a leaf
def insL (b : Bool) (n m : Int) : List Int → List Int
  | [] => []
  | x :: l => if x = n then (if b = true then m :: x :: insL b n m l else x :: m :: insL b n m l) else x :: insL b n m l
def ins (b : Bool) (n m : Int) : Fo → Fo
  | .nil => .nil
  | .cons x k r => if x = n then (if b = true then .cons m .nil (.cons x .nil (ins b n m r)) else .cons x .nil (.cons m .nil (ins b n m r))) else .cons x (ins b n m k) (ins b n m r)
theorem ins_nums (b : Bool) (n m : Int) : ∀ f : Fo, (ins b n m f).nums = insL b n m f.nums
  | .nil => rfl
  | .cons x k r => by
    have := ins_nums b n m r
    by_cases e : x = n
    · cases b <;> simp [ins, insL, e, Fo.nums, this]
    · simp [ins, insL, e, Fo.nums, this]
theorem insL_off {b : Bool} {n m : Int} : ∀ {l : List Int}, n ∉ l → insL b n m l = l
  | [], _ => rfl
  | x :: l, h => by
    simp only [List.mem_cons, not_or] at h
    rw [insL, if_neg (fun e => h.1 e.symm), insL_off h.2]
theorem insL_mem {b : Bool} {n m : Int} : ∀ {l : List Int}, ∀ x ∈ insL b n m l, x ∈ l ∨ (x = m ∧ n ∈ l)
  | y :: l, x, h => by
    unfold insL at h
    split at h
    · rename_i e
      split at h
      · rcases List.mem_cons.mp h with h | h
        · exact .inr ⟨h, by rw [e]; exact .head _⟩
        rcases List.mem_cons.mp h with h | h
        · exact .inl (by rw [h]; exact .head _)
        · rcases insL_mem x h with h | ⟨h, h2⟩
          · exact .inl (.tail _ h)
          · exact .inr ⟨h, .tail _ h2⟩
      · rcases List.mem_cons.mp h with h | h
        · exact .inl (by rw [h]; exact .head _)
        rcases List.mem_cons.mp h with h | h
        · exact .inr ⟨h, by rw [e]; exact .head _⟩
        · rcases insL_mem x h with h | ⟨h, h2⟩
          · exact .inl (.tail _ h)
          · exact .inr ⟨h, .tail _ h2⟩
    · rcases List.mem_cons.mp h with h | h
      · exact .inl (by rw [h]; exact .head _)
      · rcases insL_mem x h with h | ⟨h, h2⟩
        · exact .inl (.tail _ h)
        · exact .inr ⟨h, .tail _ h2⟩
theorem insL_idx {b : Bool} {n m : Int} : ∀ {l : List Int} {i : Nat}, l.Nodup → l[i]? = some n → insL b n m l = if b = true then l.take i ++ m :: l.drop i else l.take (i + 1) ++ m :: l.drop (i + 1)
  | x :: l, 0, h, hi => by
    simp at hi; subst hi
    rw [insL, if_pos rfl, insL_off (List.nodup_cons.mp h).1]
    cases b <;> simp
  | x :: l, i + 1, h, hi => by
    have hx : x ≠ n := fun e => by
      subst e
      exact (List.nodup_cons.mp h).1 (List.mem_of_getElem? (by simpa using hi))
    rw [insL, if_neg hx, insL_idx (List.nodup_cons.mp h).2 (by simpa using hi)]
    cases b <;> simp
theorem sum_ins {b : Bool} {n m : Int} {f g : Int → Int} (hn : f n + f m = g n) : ∀ {l : List Int}, l.Nodup → (∀ x ∈ l, x ≠ n → f x = g x) → ((insL b n m l).map f).sum = (l.map g).sum
  | [], _, _ => rfl
  | x :: l, h, ho => by
    have ih := sum_ins (b := b) hn (List.nodup_cons.mp h).2 fun y hy => ho y (.tail _ hy)
    unfold insL
    split
    · rename_i e
      subst e
      cases b <;> simp only [if_true, Bool.false_eq_true, if_false, List.map_cons, List.sum_cons, ih] <;> lia
    · rename_i e
      simp only [List.map_cons, List.sum_cons, ih, ho x (.head _) e]
theorem ins_off {b : Bool} {n m : Int} : ∀ {f : Fo}, n ∉ f.all → ins b n m f = f
  | .nil, _ => rfl
  | .cons y k r, h => by
    simp only [Fo.all, List.mem_cons, List.mem_append, not_or] at h
    rw [ins, if_neg (fun e => h.1 e.symm), ins_off h.2.1, ins_off h.2.2]
theorem ins_all {b : Bool} {n m : Int} : ∀ {f : Fo}, ∀ x ∈ (ins b n m f).all, x ∈ f.all ∨ (x = m ∧ n ∈ f.all)
  | .cons y k r, x, h => by
    have ihk := ins_all (b := b) (n := n) (m := m) (f := k) x
    have ihr := ins_all (b := b) (n := n) (m := m) (f := r) x
    by_cases e : y = n
    · cases b <;> simp only [ins, e, if_true, Bool.false_eq_true, if_false, Fo.all, List.mem_cons, List.mem_append, List.nil_append] at h ⊢ <;>
      rcases h with h | h | h <;> first | exact .inl (.inl h) | exact .inr ⟨h, .inl trivial⟩ | (rcases ihr h with q | ⟨q, q2⟩; exact .inl (.inr (.inr q)); exact .inr ⟨q, .inr (.inr q2)⟩)
    · simp only [ins, if_neg e, Fo.all, List.mem_cons, List.mem_append] at h ⊢
      rcases h with h | h | h
      · exact .inl (.inl h)
      · rcases ihk h with q | ⟨q, q2⟩
        · exact .inl (.inr (.inl q))
        · exact .inr ⟨q, .inr (.inl q2)⟩
      · rcases ihr h with q | ⟨q, q2⟩
        · exact .inl (.inr (.inr q))
        · exact .inr ⟨q, .inr (.inr q2)⟩
theorem ins_nod {b : Bool} {n m : Int} : ∀ {f : Fo}, f.all.Nodup → m ∉ f.all → (ins b n m f).all.Nodup
  | .nil, _, _ => List.nodup_nil
  | .cons y k r, hnd, hm => by
    simp only [Fo.all, List.nodup_cons, List.mem_append, not_or, List.nodup_append, List.mem_cons] at hnd hm
    have i1 := ins_nod (b := b) (n := n) hnd.2.1 hm.2.1
    have i2 := ins_nod (b := b) (n := n) hnd.2.2.1 hm.2.2
    by_cases e : y = n
    · subst e
      have o2 := ins_off (b := b) (m := m) hnd.1.2
      cases b
      · simp only [ins, if_true, Bool.false_eq_true, if_false, o2, Fo.all, List.nodup_cons, List.mem_cons, List.nil_append, not_or]
        exact ⟨⟨fun q => hm.1 q.symm, hnd.1.2⟩, hm.2.2, hnd.2.2.1⟩
      · simp only [ins, if_true, o2, Fo.all, List.nodup_cons, List.mem_cons, List.nil_append, not_or]
        exact ⟨⟨hm.1, hm.2.2⟩, hnd.1.2, hnd.2.2.1⟩
    · simp only [ins, if_neg e, Fo.all, List.nodup_cons, List.nodup_append, List.mem_append, not_or]
      refine ⟨⟨fun h => ?_, fun h => ?_⟩, i1, i2, fun x hx z hz q => ?_⟩
      · rcases ins_all y h with h | ⟨h, _⟩
        · exact hnd.1.1 h
        · exact hm.1 h.symm
      · rcases ins_all y h with h | ⟨h, _⟩
        · exact hnd.1.2 h
        · exact hm.1 h.symm
      · subst q
        rcases ins_all x hx with h1 | ⟨h1, h2⟩ <;> rcases ins_all x hz with h3 | ⟨h3, h4⟩
        · exact hnd.2.2.2 x h1 x h3 rfl
        · exact hm.2.1 (h3 ▸ h1)
        · exact hm.2.2 (h1 ▸ h3)
        · exact hnd.2.2.2 n h2 n h4 rfl
theorem ins_size (b : Bool) (n m : Int) : ∀ f : Fo, f.all.Nodup → (ins b n m f).size ≤ f.size + 1
  | .nil, _ => Nat.zero_le _
  | .cons y k r, hnd => by
    simp only [Fo.all, List.nodup_cons, List.mem_append, not_or, List.nodup_append] at hnd
    by_cases e : y = n
    · subst e
      rw [ins, if_pos rfl, ins_off hnd.1.2]
      cases b <;> simp only [if_true, Bool.false_eq_true, if_false, Fo.size] <;> lia
    · rw [ins, if_neg e]
      by_cases h : n ∈ k.all
      · rw [ins_off (f := r) (fun q => hnd.2.2.2 n h n q rfl)]
        have := ins_size b n m k hnd.2.1
        simp only [Fo.size]; lia
      · rw [ins_off h]
        have := ins_size b n m r hnd.2.2.1
        simp only [Fo.size]; lia
structure Leaf (W : Int → WR) (n q ax i j : Int) : Prop where
  sort : (W n).sort = 0
  parent : (W n).parent = q
  kids : (W n).kids = []
  size : sizeI ax (W n) = i
  cross : sizeI (1 - ax) (W n) = j
theorem Leaf.wh {W : Int → WR} {n q ax i j : Int} (H : Leaf W n q ax i j) (hax : ax = 0 ∨ ax = 1) (hi : 1 ≤ i) (hj : 1 ≤ j) : 1 ≤ (W n).width ∧ 1 ≤ (W n).height := by
  have h1 := H.size
  have h2 := H.cross
  rcases hax with rfl | rfl <;> simp [sizeI] at h1 h2 <;> lia
theorem Leaf.node {W : Int → WR} {n q ax i j : Int} (H : Leaf W n q ax i j) (hax : ax = 0 ∨ ax = 1) (hi : 1 ≤ i) (hj : 1 ≤ j) : Node W n .nil :=
  ⟨H.kids, .inl ⟨H.sort, rfl⟩, (H.wh hax hi hj).1, (H.wh hax hi hj).2⟩
theorem good_ins {W W4 : Int → WR} {b : Bool} {n m q ax old new : Int} (hs0 : (W n).sort = 0) (hax : ax = 0 ∨ ax = 1) (hq : (W n).parent = q) (hqs : alongI (W q).sort = ax) (hsum : old + new = sizeI ax (W n)) (ho1 : 1 ≤ old) (hn1 : 1 ≤ new) (hc1 : 1 ≤ sizeI (1 - ax) (W n))
    (hn : Leaf W4 n q ax old (sizeI (1 - ax) (W n))) (hm : Leaf W4 m q ax new (sizeI (1 - ax) (W n))) :
    ∀ {f : Fo} {par s : Int}, Good W par s f → f.all.Nodup → m ∉ f.all → (n ∈ f.nums → par = q ∧ s ≠ 0) → (∀ x ∈ f.all, x ≠ n → SameC { W x with kids := insL b n m (W x).kids } (W4 x)) → Good W4 par s (ins b n m f)
  | .nil, _, _, _, _, _, _, _ => trivial
  | .cons y k r, par, s, ⟨g1, g2, g3, g4, g5⟩, hnd, hmf, hs, ho => by
    simp only [Fo.all, List.nodup_cons, List.mem_append, not_or, List.nodup_append, List.mem_cons] at hnd hmf
    have IHr := good_ins (b := b) hs0 hax hq hqs hsum ho1 hn1 hc1 hn hm g5 hnd.2.2.1 hmf.2.2 (fun h => hs (.tail _ h)) (fun x hx => ho x (.tail _ (List.mem_append_right _ hx)))
    by_cases e : y = n
    · subst e
      obtain ⟨hp, hs⟩ := hs (.head _)
      have Gn : (W4 y).parent = par ∧ (W4 y).sort ≠ s ∧ Node W4 y .nil ∧ Good W4 y (W4 y).sort .nil := ⟨hn.parent.trans hp.symm, by rw [hn.sort]; exact hs.symm, hn.node hax ho1 hc1, trivial⟩
      have Gm : (W4 m).parent = par ∧ (W4 m).sort ≠ s ∧ Node W4 m .nil ∧ Good W4 m (W4 m).sort .nil := ⟨hm.parent.trans hp.symm, by rw [hm.sort]; exact hs.symm, hm.node hax hn1 hc1, trivial⟩
      rw [ins, if_pos rfl]
      cases b
      · exact ⟨Gn.1, Gn.2.1, Gn.2.2.1, Gn.2.2.2, Gm.1, Gm.2.1, Gm.2.2.1, Gm.2.2.2, IHr⟩
      · exact ⟨Gm.1, Gm.2.1, Gm.2.2.1, Gm.2.2.2, Gn.1, Gn.2.1, Gn.2.2.1, Gn.2.2.2, IHr⟩
    · rw [ins, if_neg e]
      have hy := ho y (.head _) e
      have ys : n ∈ k.nums → y = q ∧ (W y).sort ≠ 0 := fun h => by
        refine ⟨(good_nums g4 n h).1.symm.trans hq, fun z => ?_⟩
        rcases g3.sort with w | w
        · rw [w.2] at h; exact nomatch h
        · rcases w.1 with w | w <;> lia
      have IHk := good_ins (b := b) hs0 hax hq hqs hsum ho1 hn1 hc1 hn hm g4 hnd.2.1 hmf.2.1 ys (fun x hx => ho x (.tail _ (List.mem_append_left _ hx)))
      have sz : ∀ x ∈ k.nums, x ≠ n → ∀ c, sizeI c (W4 x) = sizeI c (W x) := fun x hx hxn c => by
        rw [(ho x (.tail _ (List.mem_append_left _ (numsAll k x hx))) hxn).size]; rfl
      refine ⟨by rw [hy.parent]; exact g1, by rw [hy.sort]; exact g2, ⟨?_, ?_, by rw [hy.width]; exact g3.wide, by rw [hy.height]; exact g3.high⟩, by rw [hy.sort]; exact IHk, IHr⟩
      · rw [hy.kids, ins_nums, ← g3.kids]
      · rcases g3.sort with w | ⟨w, z1, z2⟩
        · exact .inl ⟨by rw [hy.sort]; exact w.1, by rw [w.2]; rfl⟩
        · refine .inr ⟨by rw [hy.sort]; exact w, ?_, ?_⟩
          · rw [hy.sort, hy.size, ins_nums]
            show _ = sizeI _ (W y)
            rw [← z1]
            by_cases hk : n ∈ k.nums
            · have hal : alongI (W y).sort = ax := by rw [(ys hk).1]; exact hqs
              refine sum_ins ?_ (nums_nodup hnd.2.1) fun x hx hxn => sz x hx hxn _
              show sizeI (alongI (W y).sort) (W4 n) + sizeI (alongI (W y).sort) (W4 m) = sizeI (alongI (W y).sort) (W n)
              rw [hal, hn.size, hm.size]; exact hsum
            · rw [insL_off hk]
              exact map_sum_congr fun x hx => sz x hx (fun q => hk (q ▸ hx)) _
          · intro x hx
            rw [ins_nums] at hx
            rw [hy.sort, hy.size]
            show _ = sizeI (1 - alongI (W y).sort) (W y)
            show sizeI (1 - alongI (W y).sort) (W4 x) = _
            rcases insL_mem x hx with hx | ⟨rfl, hk⟩
            · by_cases q : x = n
              · have hal : alongI (W y).sort = ax := by rw [(ys (q ▸ hx)).1]; exact hqs
                rw [← z2 x hx, q, hal, hn.cross]
              · rw [sz x hx q]; exact z2 x hx
            · have hal : alongI (W y).sort = ax := by rw [(ys hk).1]; exact hqs
              rw [← z2 n hk, hal, hm.cross]
end
section
theorem nodup_len : ∀ {l m : List Int}, l.Nodup → (∀ x ∈ l, x ∈ m) → l.length ≤ m.length
  | [], _, _, _ => Nat.zero_le _
  | x :: l, m, h, hs => by
    have hx := hs x (.head _)
    have h1 := nodup_len (l := l) (m := m.erase x) (List.nodup_cons.mp h).2 fun y hy => (List.mem_erase_of_ne (fun e : y = x => (List.nodup_cons.mp h).1 (by rw [← e]; exact hy))).mpr (hs y (.tail _ hy))
    rw [List.length_erase_of_mem hx] at h1
    have := List.length_pos_of_mem hx
    rw [List.length_cons]; lia
theorem all_len : ∀ f : Fo, f.all.length = f.size
  | .nil => rfl
  | .cons _ k r => by simp only [Fo.all, Fo.size, List.length_cons, List.length_append, all_len k, all_len r]; lia
/-- where a leaf of a well-formed tree stands -/
structure Stand (W : Int → WR) (r : Int) (k : Fo) (n : Int) : Prop where
  kids : (W n).kids = []
  wide : 1 ≤ (W n).width
  high : 1 ≤ (W n).height
  top : n = r ∨ (n ≠ r ∧ (W n).parent ≠ n ∧ (W n).parent ≠ 0 ∧ (W n).parent ∈ r :: k.all ∧ (∃ i : Nat, (W (W n).parent).kids[i]? = some n))
theorem Tre.ne0 {S : TS} {r : Int} {k : Fo} (H : Tre S r k) : ∀ x ∈ r :: k.all, x ≠ 0 := fun x hx => by
  have := (H.pos x (H.dom x hx)).1; lia
theorem Tre.par {S : TS} {r : Int} {k : Fo} (H : Tre S r k) {p n : Int} (hp : p ∈ r :: k.all) (hn : n ∈ (S.W p).kids) : (S.W n).parent = p ∧ n ∈ r :: k.all ∧ n ≠ p := by
  have hnd := H.nod
  rw [← H.all] at hnd
  obtain ⟨k', h1, h2, h3, h4, h5⟩ := good_at H.good hnd p (by rw [H.all]; exact hp)
  rw [h1.kids] at hn
  refine ⟨(good_nums h2 n hn).1, by rw [← H.all]; exact h3 n (numsAll _ _ hn), fun e => ?_⟩
  exact (List.nodup_cons.mp h4).1 (e ▸ numsAll _ _ hn)
theorem Tre.knd {S : TS} {r : Int} {k : Fo} (H : Tre S r k) {p : Int} (hp : p ∈ r :: k.all) : (S.W p).kids.Nodup ∧ (S.W p).kids.length ≤ S.dom.length := by
  have hnd := H.nod
  rw [← H.all] at hnd
  obtain ⟨k', h1, h2, h3, h4, h5⟩ := good_at H.good hnd p (by rw [H.all]; exact hp)
  have hk := nums_nodup (List.nodup_cons.mp h4).2
  rw [h1.kids]
  exact ⟨hk, nodup_len hk fun x hx => H.dom x (by rw [← H.all]; exact h3 x (numsAll _ _ hx))⟩
theorem Tre.stand {S : TS} {r : Int} {k : Fo} (H : Tre S r k) {n : Int} (hn : n ∈ r :: k.all) (hs : (S.W n).sort = 0) : Stand S.W r k n := by
  have hnd := H.nod
  rw [← H.all] at hnd
  obtain ⟨k', h1, h2, h3, h4, h5⟩ := good_at H.good hnd n (by rw [H.all]; exact hn)
  refine ⟨?_, h1.wide, h1.high, ?_⟩
  · rw [h1.kids]
    rcases h1.sort with ⟨_, q⟩ | ⟨q | q, _⟩
    · rw [q]; rfl
    · lia
    · lia
  · by_cases e : n = r
    · exact .inl e
    refine .inr ⟨e, ?_⟩
    rcases good_loc H.good n (by rw [H.all]; exact hn) with h | ⟨p, hp, h2, h3⟩
    · exact absurd (List.mem_singleton.mp h) e
    · rw [H.all] at hp
      rw [h2]
      obtain ⟨_, _, h6⟩ := H.par hp h3
      exact ⟨h6.symm, H.ne0 p hp, hp, List.getElem?_of_mem h3⟩
theorem Tre.rpar {S : TS} {r : Int} {k : Fo} (H : Tre S r k) : (S.W r).parent = 0 ∧ (S.W r).sort ≠ 3 := ⟨H.good.1, H.good.2.1⟩
theorem Tre.fresh {S : TS} {r : Int} {k : Fo} (H : Tre S r k) : S.last + 1 ∉ S.dom := fun h => by have := (H.pos _ h).2; lia
/-- what combined makes of the tree -/
structure Made (S S1 : TS) (r1 : Int) (k1 : Fo) (k : Fo) (n ax q wide high : Int) : Prop where
  x : S1.x = S.x
  d : S1.d = S.d
  sel : S1.selected = S.selected
  ex : S1.ex = S.ex
  A : S1.A n = S.A n
  dlen : S1.dom.length ≤ S.dom.length + 1
  sort : (S1.W n).sort = 0
  kids : (S1.W n).kids = []
  par : (S1.W n).parent = q
  w : (S1.W n).width = (S.W n).width
  h : (S1.W n).height = (S.W n).height
  al : alongI (S1.W q).sort = ax
  qs : (S1.W q).sort ≠ 0
  nm : n ∈ r1 :: k1.all
  qm : q ∈ r1 :: k1.all
  qn : q ≠ n
  idx : ∃ i : Nat, (S1.W q).kids[i]? = some n
  size : k1.size ≤ k.size + 1
  tre : Tre S1 r1 k1
  wide : (S1.W r1).width = wide
  high : (S1.W r1).height = high
theorem made_same {S : TS} {r : Int} {k : Fo} {n ax wide high : Int} (H : Tre S r k) (hn : n ∈ r :: k.all) (hs : (S.W n).sort = 0) (hp : (S.W n).parent ≠ 0) (ha : alongI (S.W (S.W n).parent).sort = ax)
    (hw : (S.W r).width = wide) (hh : (S.W r).height = high) : Made S S r k k n ax (S.W n).parent wide high := by
  have hst := H.stand hn hs
  rcases hst.top with e | ⟨e, e1, e2, e3, i, e4⟩
  · exact absurd (by rw [e]; exact H.rpar.1) hp
  refine ⟨rfl, rfl, rfl, rfl, rfl, Nat.le_succ _, hs, hst.kids, rfl, rfl, rfl, ha, fun z => ?_, hn, e3, e1, ⟨i, e4⟩, Nat.le_succ _, H, hw, hh⟩
  rw [(H.stand e3 z).kids] at e4
  cases e4
theorem made_new {S S1 : TS} {r : Int} {k : Fo} {n ax wide high : Int} (H : Tre S r k) (R : CombR S S1 n ax) (hn : n ∈ r :: k.all) (hs : (S.W n).sort = 0) (hax : ax = 0 ∨ ax = 1) (hp : (S.W n).parent ≠ 0 → alongI (S.W (S.W n).parent).sort ≠ ax)
    (hw : (S.W r).width = wide) (hh : (S.W r).height = high) : ∃ r1 k1, Made S S1 r1 k1 k n ax (S.last + 1) wide high := by
  have hst := H.stand hn hs
  have hnd := H.nod
  rw [← H.all] at hnd
  have hna : n ≠ S.last + 1 := fun e => H.fresh (e ▸ H.dom n hn)
  have haf : S.last + 1 ∉ (Fo.cons r k .nil).all := by rw [H.all]; exact fun h => H.fresh (H.dom _ h)
  obtain ⟨ca, hWa⟩ := R.Wa
  have ssort : (sortI ax = 1 ∨ sortI ax = 2) ∧ alongI (sortI ax) = ax := by
    rcases hax with rfl | rfl <;> simp [sortI, alongI]
  have hoth : ∀ x ∈ (Fo.cons r k .nil).all, x ≠ n → SameC { S.W x with kids := (S.W x).kids.map (sg n (S.last + 1)) } (S1.W x) := by
    intro x hx hxn
    rw [H.all] at hx
    have hxa : x ≠ S.last + 1 := fun e => H.fresh (e ▸ H.dom x hx)
    by_cases e : n ∈ (S.W x).kids
    · obtain ⟨p1, _, _⟩ := H.par hx e
      obtain ⟨i, hi⟩ := List.getElem?_of_mem e
      have p0 : (S.W n).parent ≠ 0 := by rw [p1]; exact H.ne0 x hx
      have h1 := R.Wp p0 i (by rw [p1]; exact hi)
      rw [p1] at h1
      rw [h1, set_sg (H.knd hx).1 hi]
      exact ⟨rfl, rfl, rfl, rfl, rfl⟩
    · rw [map_sg e]
      have : S1.W x = S.W x := by
        by_cases e2 : (S.W n).parent ≠ 0 ∧ x = (S.W n).parent
        · exfalso
          obtain ⟨e2, e3⟩ := e2
          rcases hst.top with q | ⟨_, _, _, _, i, q⟩
          · exact e2 (by rw [q]; exact H.rpar.1)
          · rw [← e3] at q
            exact e (List.mem_of_getElem? q)
        · exact R.Wo x hxa hxn fun h1 h2 => e2 ⟨h1, h2⟩
      rw [this]
      exact ⟨rfl, rfl, rfl, rfl, rfl⟩
  have G := good_rep (W1 := S1.W) (a := S.last + 1) hs hax (by rw [R.Wn]; exact ⟨rfl, rfl, rfl, rfl, rfl⟩) (by rw [hWa]; exact ⟨rfl, rfl, rfl, rfl, rfl⟩)
    (fun x x0 h1 h2 e => by subst h1; exact hp x0 (by rw [e]; exact ssort.2)) H.good hnd haf (by rw [H.all]; exact H.ne0) (fun _ e => by lia) hoth
  have N := rep_nod H.good hs hnd haf
  have Z := rep_size n (S.last + 1) _ hnd
  have hdom1 : ∀ x, x ∈ r :: k.all ∨ (x = S.last + 1 ∧ n ∈ r :: k.all) → x ∈ S1.dom := fun x hx => by
    rw [R.dom]
    rcases hx with h | ⟨h, _⟩
    · exact .tail _ (H.dom x h)
    · rw [h]; exact .head _
  have hpos : ∀ m ∈ S1.dom, 1 ≤ m ∧ m ≤ S1.last := fun m hm => by
    rw [R.dom] at hm
    rw [R.last]
    have := H.last
    rcases List.mem_cons.mp hm with rfl | hm
    · lia
    · have := H.pos m hm; lia
  have hl1 : 0 ≤ S1.last := by rw [R.last]; have := H.last; lia
  have hal := fun x => rep_all (n := n) (a := S.last + 1) (f := .cons r k .nil) x
  rw [H.all] at hal
  have hdl : S1.dom.length ≤ S.dom.length + 1 := by rw [R.dom]; exact Nat.le_refl _
  have hWk : (S1.W (S.last + 1)).kids = [n] := by rw [hWa]
  have base : ∀ r1 k1, rep n (S.last + 1) (.cons r k .nil) = .cons r1 k1 .nil → (if (S.W n).parent = 0 then S.last + 1 else S.root) = r1 → n ∈ r1 :: k1.all → S.last + 1 ∈ r1 :: k1.all → (S1.W r1).width = wide → (S1.W r1).height = high → ∃ r1 k1, Made S S1 r1 k1 k n ax (S.last + 1) wide high := by
    intro r1 k1 e hr hm1 hm2 hw1 hh1
    rw [e] at G N Z hal
    have eall : (Fo.cons r1 k1 .nil).all = r1 :: k1.all := by simp [Fo.all]
    rw [eall] at N hal
    refine ⟨r1, k1, R.x, R.d, R.sel, R.ex, R.A n hna, hdl, by rw [R.Wn]; exact hs, by rw [R.Wn]; exact hst.kids, by rw [R.Wn], by rw [R.Wn], by rw [R.Wn], by rw [hWa]; exact ssort.2, by rw [hWa]; dsimp only; lia, hm1, hm2, Ne.symm hna, ⟨0, by rw [hWk]; rfl⟩, ?_, ⟨G, N, fun m hm => hdom1 m (hal m hm), by rw [R.root]; exact hr, hpos, hl1⟩, hw1, hh1⟩
    simp only [Fo.size] at Z
    lia
  by_cases e : r = n
  · subst e
    refine base (S.last + 1) (.cons r .nil .nil) (by simp [rep]) (by rw [if_pos H.rpar.1]) (.tail _ (.head _)) (.head _) (by rw [hWa]; exact hw) (by rw [hWa]; exact hh)
  · rcases hst.top with q | ⟨_, q1, q2, q3, i, q4⟩
    · exact absurd q.symm e
    have hnk : n ∈ k.all := by
      rcases List.mem_cons.mp hn with h | h
      · exact absurd h.symm e
      · exact h
    have hrw := hoth r (.head _) e
    refine base r (rep n (S.last + 1) k) (by simp [rep, e]) (by rw [if_neg q2]; exact H.root) ?_ ?_ (by rw [hrw.width]; exact hw) (by rw [hrw.height]; exact hh)
    · exact .tail _ (rep_keep k hnk).1
    · exact .tail _ (rep_keep k hnk).2
where rep_keep {n a : Int} : ∀ f : Fo, n ∈ f.all → n ∈ (rep n a f).all ∧ a ∈ (rep n a f).all
  | .cons x k r, h => by
    by_cases e : x = n
    · rw [rep, if_pos e]
      exact ⟨.tail _ (by rw [e]; exact .head _), .head _⟩
    · rw [rep, if_neg e]
      rcases List.mem_cons.mp h with h | h
      · exact absurd h.symm e
      rcases List.mem_append.mp h with h | h
      · exact ⟨.tail _ (List.mem_append_left _ (rep_keep k h).1), .tail _ (List.mem_append_left _ (rep_keep k h).2)⟩
      · exact ⟨.tail _ (List.mem_append_right _ (rep_keep r h).1), .tail _ (List.mem_append_right _ (rep_keep r h).2)⟩
end
section
theorem Tre.same {S S' : TS} {r : Int} {k : Fo} (H : Tre S r k) (hr : S'.root = S.root) (hd : S'.dom = S.dom) (hl : S'.last = S.last) (h : ∀ x ∈ r :: k.all, SameC (S.W x) (S'.W x)) : Tre S' r k :=
  ⟨good_same H.good (by rw [H.all]; exact h), H.nod, by rw [hd]; exact H.dom, hr.trans H.root, by rw [hd, hl]; exact H.pos, by rw [hl]; exact H.last⟩
theorem Tre.kid {S : TS} {r : Int} {k : Fo} (H : Tre S r k) {q : Int} (hq : q ∈ r :: k.all) : ∀ x ∈ (S.W q).kids, x ∈ S.dom ∧ (S.W x).sort ≠ (S.W q).sort ∧ (S.W x).parent = q := fun x hx => by
  have hnd := H.nod
  rw [← H.all] at hnd
  obtain ⟨k', h1, h2, h3, h4, h5⟩ := good_at H.good hnd q (by rw [H.all]; exact hq)
  obtain ⟨p1, p2, p3⟩ := H.par hq hx
  rw [h1.kids] at hx
  exact ⟨H.dom x p2, (good_nums h2 x hx).2, p1⟩
theorem Tre.okOf {S : TS} {r : Int} {k : Fo} (H : Tre S r k) : (Fo.cons r k .nil).Ok S.W := good_ok H.good
/-- a window put in beside a leaf -/
theorem tre_ins {S S1 S3 : TS} {r1 : Int} {k1 k : Fo} {n ax q wide high old new m : Int} {b : Bool} (M : Made S S1 r1 k1 k n ax q wide high) (hax : ax = 0 ∨ ax = 1) (hm : m = S1.last + 1)
    (hsum : old + new = sizeI ax (S1.W n)) (ho : 1 ≤ old) (hnw : 1 ≤ new) (hn : Leaf S3.W n q ax old (sizeI (1 - ax) (S1.W n))) (hl : Leaf S3.W m q ax new (sizeI (1 - ax) (S1.W n)))
    (hq : SameC { S1.W q with kids := insL b n m (S1.W q).kids } (S3.W q)) (hoth : ∀ x, x ≠ n → x ≠ m → x ≠ q → S3.W x = S1.W x) (hdom : S3.dom = m :: S1.dom) (hlast : S3.last = m) (hroot : S3.root = S1.root) :
    ∃ k3, Tre S3 r1 k3 ∧ k3.size ≤ k1.size + 1 ∧ (S3.W r1).width = wide ∧ (S3.W r1).height = high ∧ q ∈ r1 :: k3.all := by
  have H := M.tre
  have hst := H.stand M.nm M.sort
  have hnd := H.nod
  rw [← H.all] at hnd
  have mf : ∀ x ∈ r1 :: k1.all, x ≠ m := fun x hx e => by have := (H.pos x (H.dom x hx)).2; lia
  have mq := mf q M.qm
  have c1 : 1 ≤ sizeI (1 - ax) (S1.W n) := by
    have h1 := hst.wide
    have h2 := hst.high
    rcases hax with rfl | rfl <;> simp [sizeI] <;> lia
  have hoth' : ∀ x ∈ (Fo.cons r1 k1 .nil).all, x ≠ n → SameC { S1.W x with kids := insL b n m (S1.W x).kids } (S3.W x) := by
    intro x hx hxn
    rw [H.all] at hx
    by_cases e : x = q
    · rw [e]; exact hq
    · have : n ∉ (S1.W x).kids := fun h => e ((H.par hx h).1.symm.trans M.par)
      rw [insL_off this, hoth x hxn (mf x hx) e]
      exact ⟨rfl, rfl, rfl, rfl, rfl⟩
  have rn : r1 ≠ n := fun e => by
    have h1 := H.rpar.1
    rw [e, M.par] at h1
    exact H.ne0 q M.qm h1
  have G := good_ins (b := b) M.sort hax M.par M.al hsum ho hnw c1 hn hl H.good hnd (by rw [H.all]; exact fun h => mf m h rfl) (fun h => absurd (List.mem_singleton.mp h).symm rn) hoth'
  have N := ins_nod (b := b) (n := n) (m := m) hnd (by rw [H.all]; exact fun h => mf m h rfl)
  have Z := ins_size b n m _ hnd
  have hal := fun x => ins_all (b := b) (n := n) (m := m) (f := .cons r1 k1 .nil) x
  have e : ins b n m (.cons r1 k1 .nil) = .cons r1 (ins b n m k1) .nil := by simp [ins, rn]
  rw [e] at G N Z hal
  have eall : (Fo.cons r1 (ins b n m k1) .nil).all = r1 :: (ins b n m k1).all := by simp [Fo.all]
  rw [eall, H.all] at hal
  rw [eall] at N
  simp only [Fo.size] at Z
  have hr := hoth' r1 (.head _) rn
  refine ⟨ins b n m k1, ⟨G, N, fun x hx => ?_, by rw [hroot]; exact H.root, fun x hx => ?_, ?_⟩, by lia, by rw [hr.width]; exact M.wide, by rw [hr.height]; exact M.high, ?_⟩
  · rw [hdom]
    rcases hal x hx with h | ⟨h, _⟩
    · exact .tail _ (H.dom x h)
    · rw [h]; exact .head _
  · rw [hdom] at hx
    rw [hlast]
    have := H.last
    rcases List.mem_cons.mp hx with rfl | hx
    · lia
    · have := H.pos x hx; lia
  · rw [hlast]; have := H.last; lia
  · rcases List.mem_cons.mp M.qm with h | h
    · rw [h]; exact .head _
    · exact .tail _ (ins_keep M.sort k1 H.okOf.2.2.1 h)
where ins_keep {b : Bool} {n m q : Int} {W : Int → WR} (hs : (W n).sort = 0) : ∀ f : Fo, f.Ok W → q ∈ f.all → q ∈ (ins b n m f).all
  | .cons x k r, ⟨_, o2, o3, o4⟩, h => by
    by_cases e : x = n
    · rw [ins, if_pos e]
      rcases List.mem_cons.mp h with h | h
      · cases b <;> simp [Fo.all, h]
      rcases List.mem_append.mp h with h | h
      · rw [o2 (by rw [e]; exact hs)] at h; exact nomatch h
      · have := ins_keep (b := b) (n := n) (m := m) hs r o4 h
        cases b <;> simp [Fo.all, this]
    · rw [ins, if_neg e]
      rcases List.mem_cons.mp h with h | h
      · rw [h]; exact .head _
      rcases List.mem_append.mp h with h | h
      · exact .tail _ (List.mem_append_left _ (ins_keep hs k o3 h))
      · exact .tail _ (List.mem_append_right _ (ins_keep hs r o4 h))
/-- the whole of a laid-out tree -/
structure Full (S : TS) (r : Int) (k : Fo) (wide high : Int) : Prop where
  tre : Tre S r k
  pl : PlacedT S.W S.W ⟨r, k, 0, 0⟩
  wide : (S.W r).width = wide
  high : (S.W r).height = high
theorem placed_self {W W' : Int → WR} (h : ∀ m, (W' m).kids = (W m).kids ∧ (W' m).sort = (W m).sort ∧ (W' m).width = (W m).width ∧ (W' m).height = (W m).height ∧ (W' m).c = (W m).c) :
    ∀ (s : Int) (f : Fo) (x y : Int), Placed W W' s f x y → Placed W' W' s f x y
  | _, .nil, _, _, _ => trivial
  | s, .cons n k r, x, y, ⟨a, b, c⟩ => by
    refine ⟨by rw [a], ?_, ?_⟩
    · rw [(h n).2.1]; exact placed_self h _ k x y b
    · have e1 : nx W' s n x = nx W s n x := by unfold nx; rw [(h n).2.2.1]
      have e2 : ny W' s n y = ny W s n y := by unfold ny; rw [(h n).2.2.2.1]
      rw [e1, e2]; exact placed_self h s r _ _ c
theorem full_placed {S : TS} {W' : Int → WR} {r : Int} {k : Fo} {wide high : Int} (H : Tre S r k) (hw : (S.W r).width = wide) (hh : (S.W r).height = high) (P : PlacedT S.W W' ⟨r, k, 0, 0⟩)
    (hoff : ∀ m, m ∉ r :: k.all → W' m = S.W m)
    (h : ∀ m, (W' m).kids = (S.W m).kids ∧ (W' m).sort = (S.W m).sort ∧ (W' m).width = (S.W m).width ∧ (W' m).height = (S.W m).height ∧ (W' m).c = (S.W m).c) : Full { S with W := W' } r k wide high := by
  have hpar : ∀ x ∈ (Fo.cons r k .nil).all, (W' x).parent = (S.W x).parent := by
    have : Placed S.W W' 0 (.cons r k .nil) 0 0 := ⟨P.1, P.2, trivial⟩
    exact placed_parent _ _ _ _ this
  refine ⟨H.same rfl rfl rfl fun x hx => ⟨(h x).2.1, hpar x (by rw [H.all]; exact hx), (h x).2.2.1, (h x).2.2.2.1, (h x).1⟩, ⟨?_, ?_⟩, by rw [← hw]; exact (h r).2.2.1, by rw [← hh]; exact (h r).2.2.2.1⟩
  · have := P.1; dsimp only at this ⊢; rw [this]
  · show Placed W' W' (W' r).sort k 0 0
    rw [(h r).2.1]; exact placed_self h _ _ _ _ P.2
where placed_parent {W W' : Int → WR} : ∀ (s : Int) (f : Fo) (x y : Int), Placed W W' s f x y → ∀ n ∈ f.all, (W' n).parent = (W n).parent
  | s, .cons n k r, x, y, ⟨a, b, c⟩, m, hm => by
    rcases List.mem_cons.mp hm with rfl | hm
    · rw [a]
    rcases List.mem_append.mp hm with hm | hm
    · exact placed_parent _ k _ _ b m hm
    · exact placed_parent _ r _ _ c m hm
end
section
theorem TreeIn.toW {w : World} {l : Led} {S : TS} {V W' : Int → WR} (H : TreeIn w l { S with W := V }) (h : W' = V) : TreeIn w l { S with W := W' } := by rw [h]; exact H
theorem TreeIn.front {w : World} {l : Led} {S : TS} (H : TreeIn w l S) (p : Addr × Obj) : TreeIn w (p :: l) S ∧ p ∈ p :: l := ⟨H.mono fun _ h => .tail _ h, .head _⟩
theorem insL_t {b : Bool} {n m : Int} {l : List Int} {i : Nat} (h : l.Nodup) (hi : l[i]? = some n) (hb : b = true) : insL b n m l = l.take (i : Int).toNat ++ m :: l.drop (i : Int).toNat := by
  rw [insL_idx h hi, if_pos hb, Int.toNat_natCast]
theorem insL_f {b : Bool} {n m : Int} {l : List Int} {i : Nat} (h : l.Nodup) (hi : l[i]? = some n) (hb : b = false) : insL b n m l = l.take ((i : Int) + 1).toNat ++ m :: l.drop ((i : Int) + 1).toNat := by
  rw [insL_idx h hi, if_neg (by rw [hb]; decide)]; rfl
theorem CallOk.weak {w : World} {mean : ExcName → Option Value} {mg mb : Str → Option Value} {f : Value} {args : List Value} {dn un₀ dn' un' : Nat} {Pre : Led → Prop} {Post : Led → Led → Value → Prop} (C : CallOk w mean mg mb f args dn un₀ Pre Post)
    (h1 : dn ≤ dn' := by decide) (h2 : un₀ ≤ un' := by decide) : CallOk w mean mg mb f args dn' un' Pre Post := fun dp un gd cn cs a ccd cl outer A₀ base h₀ L m news s Q E B F X N T hk hp hd hu ret =>
  C dp un gd cn cs a ccd cl outer A₀ base h₀ L m news s Q E B F X N T hk hp (by lia) (by lia) ret
theorem CallOk.mono2 {w : World} {mean : ExcName → Option Value} {mg mb : Str → Option Value} {f : Value} {args : List Value} {dn un₀ : Nat} {Pre : Led → Prop} {Post Post' : Led → Led → Value → Prop} (C : CallOk w mean mg mb f args dn un₀ Pre Post) (h : ∀ news news' v, Pre news → Post news news' v → Post' news news' v) :
    CallOk w mean mg mb f args dn un₀ Pre Post' := fun dp un gd cn cs a ccd cl outer A₀ base h₀ L m news s Q E B F X N T hk hp hd hu ret =>
  C dp un gd cn cs a ccd cl outer A₀ base h₀ L m news s Q E B F X N T hk hp hd hu fun r news' h' tk' F' N' p => ret r news' h' tk' F' N' (h _ _ _ hp p)
theorem combined_ok {w : World} {mean : ExcName → Option Value} {mg mb : Str → Option Value} (S : TS) (tx : Addr) (hx : S.x = tx) (n : Int) (t : Tok) {r : Int} {k : Fo} {wide high : Int} (H : Tre S r k) (hn : n ∈ r :: k.all) (hs : (S.W n).sort = 0)
    (ax : Int) (ta : Tok) (hax : ax = 0 ∨ ax = 1) (hsz : S.dom.length < 1000) (hw : (S.W r).width = wide) (hh : (S.W r).height = high) :
    CallOk w mean mg mb (.ref 332) [.ref tx, .int n t, .int ax ta] 30 600 (fun news => TreeIn w news S)
      (fun news news' v => ∃ S1 r1 k1 q, Made S S1 r1 k1 k n ax q wide high ∧ TreeIn w news' S1 ∧ ∃ t, v = .int q t) := by
  have hnd := H.dom n hn
  have hst := H.stand hn hs
  have hna : n ≠ S.last + 1 := fun e => H.fresh (e ▸ hnd)
  by_cases hp : (S.W n).parent = 0
  · exact (comb_root_ok S tx hx n hnd t ax ta H.fresh hsz hna hp).mono fun _ _ _ ⟨S1, R, hT, t, hv⟩ => by
      obtain ⟨r1, k1, M⟩ := made_new H R hn hs hax (fun h => absurd hp h) hw hh
      exact ⟨S1, r1, k1, _, M, hT, t, hv⟩
  · rcases hst.top with e | ⟨_, e1, e2, e3, i, e4⟩
    · exact absurd (by rw [e]; exact H.rpar.1) hp
    by_cases ha : alongI (S.W (S.W n).parent).sort = ax
    · exact ((comb_same_ok S tx hx n hnd t hp (H.dom _ e3) ax ta ha).weak (dn' := 30) (un' := 600)).mono2 fun _ _ _ hT ⟨hn', t, hv⟩ => by
        subst hn'
        exact ⟨S, r, k, _, made_same H hn hs hp ha hw hh, hT, t, hv⟩
    · exact (comb_kid_ok S tx hx n hnd t ax ta H.fresh hsz hna _ rfl hp (H.dom _ e3) e1 ha i e4 (H.knd e3).1 (by have := (H.knd e3).2; lia)).mono fun _ _ _ ⟨S1, R, hT, t, hv⟩ => by
        obtain ⟨r1, k1, M⟩ := made_new H R hn hs hax (fun _ => ha) hw hh
        exact ⟨S1, r1, k1, _, M, hT, t, hv⟩
end
section
theorem fresh_M13 : True := by
  w_top off
  k_with_none
  k_with "w k_mem" => (with_unfolding_all refine memIn ?_; ktr_member)
  k_with "w units_room" => ktr_units
  k_with "w k_room" => ktr_room
  k_with "zT" => first | assumption | ((refine TreeIn.mono (by assumption) ?_); repeat (first | exact sub_nil | refine sub_tail ?_))
  k_with "zn" => first | assumption | exact .head _ | exact .tail _ (by assumption)
  k_with "zA" => first | k_extra "zx" | exact upd_ne _ _ (by first | assumption | exact Ne.symm (by assumption))
  k_with "zx" => first | with_reducible rfl | assumption
  k_with "zP" => exact ⟨by k_asm, by k_asm, by k_asm, by k_extra "zT", by k_extra "zn", by k_extra "zA"⟩
  k_with "zQ" => exact ⟨by k_asm, by k_asm, by k_asm, by k_extra "zT", by k_extra "zx", by k_extra "zx"⟩
  k_with "zX" => exact ⟨by k_asm, by k_asm, by k_asm, by k_extra "zT", by k_extra "zx"⟩
  k_with "zC" => exact ⟨by k_asm, by k_asm, by k_asm, by k_asm, by k_asm⟩
  k_with "w ktr_room" => first | exact room1 (by assumption) rfl | exact room0 (by assumption) rfl | exact room2 (by assumption) rfl | ((simp +zetaDelta only [depth_under_make, depth_under_kw, depth_in1, depth_deeper, depth_caller, recursionLimit] at *); omega)
  k_with "w ktr_units" => first | exact room0 (by assumption) rfl | exact room1 (by assumption) rfl | (have zcL := cLine_is; (simp +zetaDelta only [units_in1, units_deeper, Around.mark_units, units_caller] at *); omega)
  k_with "zL" => ((try simp only [List.length_reverse, List.length_map, List.length_append, List.length_cons, List.length_nil]); omega)
  k_with "w call builtin:list.pop" => (k_here; k_dflt (refine pop_last (by k_asm) (by k_asm) (by k_upd) (by first | omega | assumption) ?_); intro _ _ _; (try k_sweep))
  k_with "w call builtin:list.extend" => (k_here; (with_reducible show wpAny _ _ (call (Value.builtin _) [Value.ref _, Value.ref _]) _ _ _); k_dflt (refine ext_ints (by k_asm) (by k_asm) (by k_mem) (by k_updF) (by l_ints) (by k_extra "zL") ?_); intro _ _ _ zN; (try dsimp only at zN); (try k_sweep))
  k_with "w setAttr ref" => (k_here; k_dflt (refine set_s (by k_asm) (by k_asm) (by k_asm) (by k_inst) (by rfl) (by k_is) (by k_is) (by k_is) (by k_is) (by k_get) (by k_put) (by k_updF) (by exact Nat.le_of_ble_eq_true rfl) ?_; k_whole); intro _ _ _ _ _; (try k_sweep))
  k_with "w call builtin:list.append" => (k_here; (with_reducible show wpAny _ _ (call (Value.builtin _) [Value.ref _, _]) _ _ _); k_dflt (refine app_any (by k_asm) (by k_asm) (by k_upd) (by first | omega | k_extra "zL") ?_); intro _ _ zN; (try dsimp only at zN); (try k_sweep))
  k_with "w execs cons" => (k_here; first | (refine execs_shut (s := ‹Shared›) ?_; intro _ _ _) | (refine execs_lit ?_; intro _ _ _) | (refine execs_shut0 ?_; intro _ _))
  k_with "w SPost" => first | refine spost_next (by assumption) ?_ | refine spost_ret (by assumption) ?_ | refine spost_cont (by assumption) ?_ | refine spost_brk (by assumption) ?_
  k_with "w CPost" => (refine cpost_of (by assumption) ?_)
  k_with "w WPost" => (dsimp only [WPost])
  k_with "w ksw_same" => (intro zz z3; (simp only [List.contains_cons, List.contains_nil, Bool.or_false, Bool.or_eq_false_iff, beq_eq_false_iff_ne, ne_eq] at z3); first | (simp [z3]; done) | (simp +zetaDelta [z3]; done))
  k_with "w FPost" => (dsimp only [FPost])
  k_with "w execs nil" => with_reducible refine wpAny_execs_nil ?_
  k_with "w call builtin:len" => (k_here; (with_reducible show wpAny _ _ (call (Value.builtin "len") [Value.ref _]) _ _ _); (refine len_ints (by k_asm) (by k_dflt k_mem) (by with_reducible assumption) (by k_extra "zL") ?_); (try simp only [List.length_map]))
  k_with "w eval Dict" => (k_here; k_dflt (refine kdn_str (by rfl) (by k_asm) (by first | k_asm | exact News.nil) (by exact Top.nolimit (by k_asm)) (by rfl) (by rfl) (by exact List.cons_ne_nil _ _) (by exact Nat.le_of_ble_eq_true rfl) ?_); intro zd zh zo zF zN zl zlo zhd; (try k_lt zl))
  k_with "w eval Constant int" => (with_reducible refine const_int_s ?_; intro _)
  k_with "w eval Constant str" => (with_reducible refine const_str_s ?_; intro _)
  k_with "w binaryOp Add int int" => (with_reducible refine add_int_s ?_; intro _)
  k_with "w binaryOp Sub int int" => (with_reducible refine sub_int_s ?_; intro _)
  k_with "w storeName" => (k_here; k_dflt (refine store_s (by k_asm) (by k_asm) ?_ rfl rfl; k_whole); intro _ _ _ _ _; (try k_sweep))
  k_with "w newTuple" => (k_here; kup_bare; k_dflt (refine tuple_s (by k_asm) (by k_asm) ?_ (by kmk_size)); intro _ _ _ _ zl; (try k_lt zl); (try k_sweep))
  k_with "w ktr_enter" => first | (refine enter_s (by k_extra "zC") rfl rfl (by first | assumption | exact rfl) (by k_is) (by k_is) (by ktr_room) (by first | exact BindsTo.of_eq rfl | exact binds_K (by k_in) rfl (by k_is) rfl rfl rfl) (by exact locs rfl) (by rfl) ?_ (by rfl) (by rfl) (by rfl) (by decide); k_whole; intro _ _ _ _ _ _ _ _ _ _ _ _; (try dsimp only); (try k_fold)) | (refine enterC_s (by k_extra "zC") rfl rfl (by first | assumption | exact rfl) (by k_is) (by k_is) (by ktr_room) (by first | exact BindsTo.of_eq rfl | exact binds_K (by k_in) rfl (by k_is) rfl rfl rfl) (by rfl) (by decide +kernel) ?_ (by rfl) (by rfl) (by rfl); k_whole; intro _ _ _ _ _ _ _ _ _ zN zY _ _ _ zl; (try k_lt zl); k_cells zY; (try simp only [List.cons_append, List.nil_append] at zN); (try dsimp only); (try k_fold))
  k_with "w getAttr ref" => (k_here; (with_reducible show wpAny _ _ (getAttr (Value.ref (AD.x (TS.A _ _))) _ _) _ _ _); first | ((with_reducible (first | apply rs_number | apply rs_sort | apply rs_parent | apply rs_left | apply rs_top | apply rs_width | apply rs_height)); (next => k_extra "zP"); intro _ _) | ((with_reducible (apply rs_children)); (next => k_extra "zP"); intro _) | ((with_reducible (first | apply rs_buffer | apply rs_start | apply rs_point | apply rs_hscroll)); (next => k_extra "zP"); intro _ _ _) | ((with_reducible (apply rs_earlier)); (next => k_extra "zP"); intro _ _ _ _))
  k_with "w getAttr ref" => (k_here; (with_reducible show wpAny _ _ (getAttr (Value.ref (TS.x _)) _ _) _ _ _); first | ((with_reducible (apply rs_t_windows)); (next => k_extra "zQ"); intro _) | ((with_reducible (first | apply rs_t_root | apply rs_t_selected | apply rs_t_last | apply rs_t_least_width | apply rs_t_least_height)); (next => k_extra "zQ"); intro _ _) | ((with_reducible (apply rs_t_clock)); (next => k_extra "zQ"); intro _ _ _))
  k_with "w getMethod ref" => (k_here; (with_reducible show wpAny _ _ (getMethod (Value.ref (AD.x (TS.A _ _))) _ _) _ _ _); ((with_reducible (first | apply ms_size | apply ms_set_size | apply ms_place | apply ms_shown | apply ms_show)); (next => k_extra "zP")))
  k_with "w getMethod ref" => (k_here; (with_reducible show wpAny _ _ (getMethod (Value.ref (TS.x _)) _ _) _ _ _); ((with_reducible (first | apply ms_t_window | apply ms_t_leaf | apply ms_t_touch | apply ms_t_fresh | apply ms_t_select | apply ms_t_least_leaf)); (next => k_extra "zQ")))
  k_with "w k_all" => first | assumption | exact all_succ (by assumption) | exact all_succ2 (by assumption)
  k_with "w subscriptTail" => (k_here; (with_reducible apply it_tail); (next => k_asm); (next => k_extra "zT"); rotate_left; (next => with_unfolding_all rfl))
  k_with "w getItem ref int" => (k_here; (with_reducible apply it_get); (next => k_asm); (next => k_extra "zT"); (next => k_extra "zn"))
  k_with "w getMethod ref" => (k_here; (with_reducible apply it_getm); (next => k_asm); (next => k_extra "zT"))
  k_with "w call builtin:dict.get" => (k_here; (with_reducible apply it_get2); (next => k_asm); (next => k_extra "zT"); (next => k_extra "zn"))
  k_with "w setAttr ref" => (k_here; (with_reducible show wpAny _ _ (setAttr (Value.ref (AD.x (TS.A _ _))) _ (Value.int _ _)) _ _ _); ((with_reducible (first | apply ws_parent | apply ws_left | apply ws_top | apply ws_width | apply ws_height | apply ws_buffer | apply ws_start | apply ws_point | apply ws_hscroll | apply ws_use_time)); (next => k_extra "zP"); intro _ _ _ _ _ _; (try k_sweep)))
  k_with "w setAttr ref" => (k_here; (with_reducible show wpAny _ _ (setAttr (Value.ref (TS.x _)) _ (Value.int _ _)) _ _ _); ((with_reducible (first | apply ws_t_last | apply ws_t_clock | apply ws_t_root | apply ws_t_selected)); (next => k_extra "zX"); intro _ _ _ _ _ _; (try k_sweep)))
  k_with "w exec Raise some none" => (first | (exfalso; omega) | (k_here; (with_reducible show wpAny _ _ (exec (Stmt.Raise (some (Expr.Call (Expr.Name (Str.ofString "LispSignal") _) _ _ _)) none _) _) _ _ _); k_dflt (refine raise_K rfl ?_)))
  k_with "w call ref" => (k_here; k_dflt (refine exc_call (by k_asm) (by k_asm) (by k_asm) ?_); intro _ _ _ _ _ _; refine wpAny_call ?_; k_dflt ktr_enter)
  k_with "w setAttr ref" => (k_here; (with_reducible show wpAny _ _ (setAttr (Value.ref _) (Str.ofString "symbol") _) _ _ _); k_dflt (refine exc_store0 (by k_asm) (by k_asm) (by k_asm) (by assumption) (by exact (sig_facts _).2.2.2.1) (by exact lk_exc _ (.inl rfl)) ?_); intro _ _ _ _ _ _ _ _ _)
  k_with "w setAttr ref" => (k_here; (with_reducible show wpAny _ _ (setAttr (Value.ref _) (Str.ofString "data") _) _ _ _); k_dflt (refine exc_store1 (by k_asm) (by k_asm) (by k_asm) (by assumption) (by assumption) (by assumption) (by assumption) (by exact (sig_facts _).2.2.2.2.1) (by exact lk_exc _ (.inr rfl)) ?_ (by exact Within.cons _ _ Within.nil) (by (rw [sizeLine_eq]; decide))); intro _ _ _ _ _ _)
  k_with "w RaiseK" => (k_here; k_dflt (refine raiseK_intro (by k_asm) (by k_asm) (by k_asm) (by k_mem) ?_))
  k_with "w And" => ((with_reducible show Value.none = Value.none ∧ _); refine ⟨rfl, ?_⟩)
  k_with "zh" => first | exact rfl | assumption
  k_with "zp" => first | k_extra "zT" | exact trivial
  trivial
theorem split_ok {w : World} {mean : ExcName → Option Value} {mg mb : Str → Option Value} (S : TS) (tx : Addr) (hx : S.x = tx) (n : Int) (t : Tok) {r : Int} {k : Fo} {wide high : Int} (H : Full S r k wide high) (hn : n ∈ r :: k.all) (hs0 : (S.W n).sort = 0) (ax : Int) (hax : ax = 0 ∨ ax = 1) (ta : Tok) (ah : Bool) (hsz : S.dom.length ≤ 900) (hkz : k.size ≤ 900)
    (h1 : leastI ax ≤ sizeI ax (S.W n) - halfI ax (S.W n)) (h2 : leastI ax ≤ halfI ax (S.W n)) :
    CallOk w mean mg mb (.ref 339) [.ref tx, .int n t, .none, .int ax ta, .bool ah] 80 2000 (fun news => TreeIn w news S) (fun news news' v => ∃ S' r' k' m t, TreeIn w news' S' ∧ Full S' r' k' wide high ∧ S'.x = S.x ∧ S'.d = S.d ∧ S'.ex = S.ex ∧ S'.dom.length ≤ S.dom.length + 2 ∧ k'.size ≤ k.size + 2 ∧ v = .int m t) := by
  subst hx
  unfold CallOk
  k_fill
  intro dp un gd cn cs a ccd cl outer A₀ base h₀ L m news s Q E B F X N Tp hk hT hd hu hret
  refine wpAny_call ?_
  k_dflt ktr_enter
  k_with "call ref" => refine stop ?_
  have hnd := H.tre.dom n hn
  have hst := H.tre.stand hn hs0
  k_steps
  refine go ?_
  (with_reducible show wpAny _ _ (call (Value.ref 325) _) _ _ _)
  ktr_call 0 (split_parts_ok S _ rfl n hnd _ hs0 hst.kids ax _ h1 h2)
  intro r' news' h' tk' F' N' P'
  obtain ⟨a9, tk9, tk8, rfl, rfl, ha9⟩ := P'
  (try dsimp only)
  k_steps
  refine go ?_
  (with_reducible show wpAny _ _ (call (Value.ref 332) _) _ _ _)
  ktr_call 0 (combined_ok S _ rfl n _ H.tre hn hs0 ax _ hax (by lia) H.wide H.high)
  intro r' news' h' tk' F' N' P'
  obtain ⟨S1, r1, k1, q, M, hT1, tq, rfl⟩ := P'
  have hx1 := M.x
  have hd1 := M.d
  have hA1 := M.A
  have hs1 := M.sort
  have hk1 := M.kids
  have hn1 := M.tre.dom n M.nm
  (try dsimp only)
  k_steps
  refine go ?_
  (with_reducible show wpAny _ _ (call (Value.ref 189) _) _ _ _)
  ktr_call 0 (leaves_under_ok S1 _ hx1 n _ .nil ⟨hk1, fun _ => rfl, trivial, trivial⟩ (fun q hq => by rcases List.mem_cons.mp hq with rfl | hq; exact hn1; exact nomatch hq) (by simp [Fo.size]))
  intro r' news' h' tk' F' N' P'
  obtain ⟨a8, v8, n8, rfl, rfl, hi8, hl8⟩ := P'
  rw [Fo.leaves, if_pos hs1] at hi8
  change IntsAre v8 [n] at hi8
  obtain ⟨t8, hv8⟩ := hi8.get 0 n rfl
  have hz8 := hi8.length
  (try dsimp only)
  k_steps
  refine go ?_
  have mf : ∀ x ∈ r1 :: k1.all, x ≠ S1.last + 1 := fun x hx e => by have := (M.tre.pos x (M.tre.dom x hx)).2; lia
  have nm := mf n M.nm
  have qm := mf q M.qm
  (with_reducible show wpAny _ _ (call (Value.ref 119) _) _ _ _)
  ktr_call 0 (fresh2_ok S1 _ hx1 0 q _ _ M.tre.fresh (by have := M.dlen; lia))
  intro r' news' h' tk' F' N' P'
  obtain ⟨S2, R2, hT2, rfl⟩ := P'
  have hx2 : S2.x = S.x := R2.x.trans hx1
  have hd2 : S2.d = S.d := R2.d.trans hd1
  have hA2 : S2.A n = S1.A n := R2.A n nm
  have hn2 : n ∈ S2.dom := by rw [R2.dom]; exact .tail _ hn1
  have hq2 : q ∈ S2.dom := by rw [R2.dom]; exact .tail _ (M.tre.dom q M.qm)
  have hm2 : S1.last + 1 ∈ S2.dom := by rw [R2.dom]; exact .head _
  (try dsimp only)
  k_steps
  refine go ?_
  rename TreeIn _ _ _ => lT
  dsimp only at lT
  obtain ⟨W3, hW3⟩ : ∃ W3, W3 = upd S2.W (S1.last + 1) { S2.W (S1.last + 1) with width := (S2.W n).width, height := (S2.W n).height } := ⟨_, rfl⟩
  have e0 : [n].getD (Int.toNat 0) 0 = n := rfl
  have hT3 := TreeIn.toW (S := S2) (W' := W3) lT (by rw [hW3]; simp only [e0, upd_same, upd_upd, upd_ne _ _ nm])
  clear lT
  (with_reducible show wpAny _ _ (call (Value.ref 69) _) _ _ _)
  ktr_call 0 (set_size_ok { S2 with W := W3 } (S1.last + 1) hm2 _ rfl ax (halfI ax (S.W n)) _ _)
  intro r' news' h' tk' F' N' P'
  obtain ⟨hT4, rfl⟩ := P'
  (try dsimp only)
  k_steps
  refine go ?_
  obtain ⟨W4, hW4⟩ : ∃ W4, W4 = upd W3 (S1.last + 1) (setSizeI ax (halfI ax (S.W n)) (W3 (S1.last + 1))) := ⟨_, rfl⟩
  have hT5 := TreeIn.toW (S := S2) (W' := W4) hT4 hW4
  clear hT4
  (with_reducible show wpAny _ _ (call (Value.ref 62) _) _ _ _)
  ktr_call 0 (size_ok { S2 with W := W4 } n hn2 _ rfl (1 - ax) _)
  intro r' news' h' tk' F' N' P'
  obtain ⟨rfl, tk7, rfl⟩ := P'
  (try dsimp only)
  k_steps
  refine go ?_
  (with_reducible show wpAny _ _ (call (Value.ref 69) _) _ _ _)
  ktr_call 0 (set_size_ok { S2 with W := W4 } (S1.last + 1) hm2 _ rfl (1 - ax) (sizeI (1 - ax) (W4 n)) _ _)
  intro r' news' h' tk' F' N' P'
  obtain ⟨hT4, rfl⟩ := P'
  clear hT5
  obtain ⟨W5, hW5⟩ : ∃ W5, W5 = upd W4 (S1.last + 1) (setSizeI (1 - ax) (sizeI (1 - ax) (W4 n)) (W4 (S1.last + 1))) := ⟨_, rfl⟩
  have hT5 := TreeIn.toW (S := S2) (W' := W5) hT4 hW5
  clear hT4
  (try dsimp only)
  k_steps
  refine go ?_
  (with_reducible show wpAny _ _ (call (Value.ref 83) _) _ _ _)
  ktr_call 0 (shown_ok { S2 with W := W5 } n hn2 _ (congrArg AD.x hA2))
  intro r' news' h' tk' F' N' P'
  obtain ⟨a7, i1, i2, i3, i4, q1, q2, q3, q4, rfl, rfl, ha7⟩ := P'
  (try dsimp only)
  k_steps
  refine go ?_
  have hp9 := hT5.front (a7, tupleOf [.int i1 q1, .int i2 q2, .int i3 q3, .int i4 q4])
  (with_reducible show wpAny _ _ (call (Value.ref 90) _) _ _ _)
  ktr_call 0 (show_ok { S2 with W := W5 } (S1.last + 1) hm2 _ rfl a7 i1 i2 i3 i4 q1 q2 q3 q4)
  intro r' news' h' tk' F' N' P'
  obtain ⟨hT6, rfl⟩ := P'
  clear hT5 hp9
  (try dsimp only)
  k_steps
  rename News _ _ _ _ => lN9
  rename ∀ p ∈ news', _ < _ => lA9
  k_dflt (refine' wr_earlier ?wF ?wX lN9 (hT6.keep _ (fun p hp => Nat.ne_of_lt (lA9 p hp))) hm2 rfl (.head _) ?_)
  case wF => k_asm
  case wX => k_asm
  intro h9 news9 F9 N9 hT9
  have hT7 : TreeIn w news9 { S2 with W := W5 } := hT9.drop (ex' := S2.ex) (fun p hp => mem_off (.tail _ hp) (Nat.ne_of_lt (lA9 p (hT6.ex hp))))
  clear hT9 hT6 lN9 lA9
  (try dsimp only)
  k_with "s getMethod" => (k_here; (with_reducible show wpAny _ _ (getMethod (Value.ref (WR.c _)) _ _) _ _ _); (fail_if_success (have zq := hki)); refine stop ?_)
  k_steps
  refine go ?_
  refine shut ?_
  intro G9 hG9
  obtain ⟨vk, nk, hc', hki⟩ := hT7.wc (n := q) hq2
  have f1 : sizeI ax (S1.W n) = sizeI ax (S.W n) ∧ sizeI (1 - ax) (S1.W n) = sizeI (1 - ax) (S.W n) := by unfold sizeI; rw [M.w, M.h]; exact ⟨rfl, rfl⟩
  have fo : ∀ x, x ≠ S1.last + 1 → W5 x = S1.W x := fun x hx => by rw [hW5, upd_ne _ _ hx, hW4, upd_ne _ _ hx, hW3, upd_ne _ _ hx]; exact R2.Wo x hx
  have fm : Leaf W5 (S1.last + 1) q ax (halfI ax (S.W n)) (sizeI (1 - ax) (S1.W n)) := by
    obtain ⟨ca, hca⟩ := R2.Wa
    have g4 : W4 n = S1.W n := by rw [hW4, upd_ne _ _ nm, hW3, upd_ne _ _ nm]; exact R2.Wo n nm
    have g5 : W5 (S1.last + 1) = setSizeI (1 - ax) (sizeI (1 - ax) (S1.W n)) (setSizeI ax (halfI ax (S.W n)) { S2.W (S1.last + 1) with width := (S2.W n).width, height := (S2.W n).height }) := by
      rw [hW5, upd_same, g4, hW4, upd_same, hW3, upd_same]
    refine ⟨?_, ?_, ?_, ?_, ?_⟩ <;> rw [g5, hca] <;> rcases hax with rfl | rfl <;> simp [setSizeI, sizeI]
  clear hW3 hW4 hW5
  have ki : (W5 q).kids = (S1.W q).kids := by rw [fo q qm]
  obtain ⟨i, hi⟩ := M.idx
  obtain ⟨kd, kl⟩ := M.tre.knd M.qm
  refine hG9 ?_
  have dl := M.dlen
  dsimp only at hki hc' ⊢
  rw [ki] at hki
  k_steps
  k_dflt (refine' ix_ints (i := i) ?zN ?zm hki ?zk ?zd ?zz ?_)
  case zN => k_asm
  case zm => k_mem
  case zk => exact hi
  case zd => exact kd
  case zz => lia
  k_steps
  all_goals
    have hil := lt_of_get hi
    rename News _ _ _ _ => lN9
    k_dflt (refine' wr_kid_ins ?wF lN9 (hT7.mono sub_nil) hq2 ?w0 ?w1 ?w2 ?_)
    case wF => k_asm
    case w0 => lia
    case w1 => (dsimp only; rw [ki]; lia)
    case w2 => (dsimp only; rw [ki]; lia)
    intro h9 news8 F9 N9 hT9
    obtain ⟨W6, hW6⟩ : ∃ W6, W6 = upd W5 q { W5 q with kids := insL ah n (S1.last + 1) (S1.W q).kids } := ⟨_, rfl⟩
    have hT8 := TreeIn.toW (S := S2) (W' := W6) hT9 (by dsimp only; rw [hW6, ki]; first | rw [insL_t kd hi (by assumption)] | rw [insL_f kd hi (by assumption)])
    clear hT9 hT7
    k_steps
    refine go ?_
    have qn := M.qn
    have nq : n ≠ q := Ne.symm M.qn
    have mq : S1.last + 1 ≠ q := Ne.symm qm
    have mn : S1.last + 1 ≠ n := Ne.symm nm
    have g6 : W6 n = S1.W n := by rw [hW6, upd_ne _ _ nq]; exact fo n nm
    (with_reducible show wpAny _ _ (call (Value.ref 311) _) _ _ _)
    ktr_call 0 (set_tree_size_ok { S2 with W := W6 } _ hx2 n hn2 _ (by dsimp only; rw [g6]; exact hs1) (by dsimp only; rw [g6]; exact hk1) ax (sizeI ax (S.W n) - halfI ax (S.W n)) _ _)
    intro r' news' h' tk' F' N' P'
    obtain ⟨hT9, rfl⟩ := P'
    obtain ⟨W7, hW7⟩ : ∃ W7, W7 = upd W6 n (setSizeI ax (sizeI ax (S.W n) - halfI ax (S.W n)) (W6 n)) := ⟨_, rfl⟩
    have hT10 := TreeIn.toW (S := S2) (W' := W7) hT9 hW7
    clear hT9 hT8
    have gn : Leaf W7 n q ax (sizeI ax (S.W n) - halfI ax (S.W n)) (sizeI (1 - ax) (S1.W n)) := by
      have g7 : W7 n = setSizeI ax (sizeI ax (S.W n) - halfI ax (S.W n)) (S1.W n) := by rw [hW7, upd_same, g6]
      have p1 := M.par
      refine ⟨?_, ?_, ?_, ?_, ?_⟩ <;> rw [g7] <;> rcases hax with rfl | rfl <;> simp [setSizeI, sizeI, hs1, hk1, p1]
    have gm : Leaf W7 (S1.last + 1) q ax (halfI ax (S.W n)) (sizeI (1 - ax) (S1.W n)) := by
      have g7 : W7 (S1.last + 1) = W5 (S1.last + 1) := by rw [hW7, upd_ne _ _ mn, hW6, upd_ne _ _ mq]
      exact ⟨by rw [g7]; exact fm.sort, by rw [g7]; exact fm.parent, by rw [g7]; exact fm.kids, by rw [g7]; exact fm.size, by rw [g7]; exact fm.cross⟩
    have gq : SameC { S1.W q with kids := insL ah n (S1.last + 1) (S1.W q).kids } (W7 q) := by
      have g7 : W7 q = { S1.W q with kids := insL ah n (S1.last + 1) (S1.W q).kids } := by rw [hW7, upd_ne _ _ qn, hW6, upd_same, fo q qm]
      rw [g7]; exact ⟨rfl, rfl, rfl, rfl, rfl⟩
    have hl9 : 2 ≤ leastI ax := by unfold leastI; split <;> lia
    refine shut ?_
    intro G9 hG9
    obtain ⟨k3, T3, z3, w3, i3, q3⟩ := tre_ins (S3 := { S2 with W := W7 }) (b := ah) M hax rfl (by rw [f1.1]; lia) (by lia) (by lia) gn gm gq (fun x a1 a2 a3 => by dsimp only; rw [hW7, upd_ne _ _ a1, hW6, upd_ne _ _ a3]; exact fo x a2) R2.dom R2.last R2.root
    refine hG9 ?_
    clear hW6 hW7
    (try dsimp only)
    k_steps
    refine go ?_
    (with_reducible show wpAny _ _ (call (Value.ref 346) _) _ _ _)
    ktr_call 0 (joined_ok { S2 with W := W7 } _ hx2 q hq2 _ (by have := (T3.knd q3).2; have e3 := congrArg List.length R2.dom; simp only [List.length_cons] at e3; dsimp only at this ⊢; lia) (T3.kid q3))
    intro r' news' h' tk' F' N' P'
    obtain ⟨c8, hT9, rfl⟩ := P'
    obtain ⟨W8, hW8⟩ : ∃ W8, W8 = upd W7 q { W7 q with c := c8 } := ⟨_, rfl⟩
    have hT11 := TreeIn.toW (S := S2) (W' := W8) hT9 hW8
    clear hT9 hT10
    have hsm : ∀ x, SameC (W7 x) (W8 x) := fun x => by
      by_cases e : x = q
      · rw [e, hW8, upd_same]; exact ⟨rfl, rfl, rfl, rfl, rfl⟩
      · rw [hW8, upd_ne _ _ e]; exact ⟨rfl, rfl, rfl, rfl, rfl⟩
    have T4 : Tre { S2 with W := W8 } r1 k3 := T3.same rfl rfl rfl fun x _ => hsm x
    (try dsimp only)
    k_steps
    refine go ?_
    (with_reducible show wpAny _ _ (call (Value.ref 318) _) _ _ _)
    ktr_call 0 (set_places_ok { S2 with W := W8 } _ hx2 r1 k3 T4.root T4.okOf T4.nod T4.dom (by have := M.size; lia))
    intro r' news' h' tk' F' N' P'
    obtain ⟨W9, hT12, PT, o1, o2, rfl⟩ := P'
    have FU := full_placed T4 (wide := wide) (high := high) (by dsimp only; rw [(hsm r1).width]; exact w3) (by dsimp only; rw [(hsm r1).height]; exact i3) PT o1 o2
    (try dsimp only)
    k_steps
    exact hret _ _ _ _ (by assumption) (by assumption) ⟨_, r1, k3, S1.last + 1, _, hT12, FU, hx2, hd2, R2.ex.trans M.ex, by have e3 := congrArg List.length R2.dom; simp only [List.length_cons] at e3; dsimp only; lia, by have := M.size; lia, rfl⟩
end
section
theorem fresh_M14 : True := by
  w_top off
  k_with_none
  k_with "w k_mem" => (with_unfolding_all refine memIn ?_; ktr_member)
  k_with "w units_room" => ktr_units
  k_with "w k_room" => ktr_room
  k_with "zT" => first | assumption | ((refine TreeIn.mono (by assumption) ?_); repeat (first | exact sub_nil | refine sub_tail ?_))
  k_with "zn" => first | assumption | exact .head _ | exact .tail _ (by assumption)
  k_with "zA" => first | k_extra "zx" | exact upd_ne _ _ (by first | assumption | exact Ne.symm (by assumption))
  k_with "zx" => first | with_reducible rfl | assumption
  k_with "zP" => exact ⟨by k_asm, by k_asm, by k_asm, by k_extra "zT", by k_extra "zn", by k_extra "zA"⟩
  k_with "zQ" => exact ⟨by k_asm, by k_asm, by k_asm, by k_extra "zT", by k_extra "zx", by k_extra "zx"⟩
  k_with "zX" => exact ⟨by k_asm, by k_asm, by k_asm, by k_extra "zT", by k_extra "zx"⟩
  k_with "zC" => exact ⟨by k_asm, by k_asm, by k_asm, by k_asm, by k_asm⟩
  k_with "w ktr_room" => first | exact room1 (by assumption) rfl | exact room0 (by assumption) rfl | exact room2 (by assumption) rfl | ((simp +zetaDelta only [depth_under_make, depth_under_kw, depth_in1, depth_deeper, depth_caller, recursionLimit] at *); omega)
  k_with "w ktr_units" => first | exact room0 (by assumption) rfl | exact room1 (by assumption) rfl | (have zcL := cLine_is; (simp +zetaDelta only [units_in1, units_deeper, Around.mark_units, units_caller] at *); omega)
  k_with "zL" => ((try simp only [List.length_reverse, List.length_map, List.length_append, List.length_cons, List.length_nil]); omega)
  k_with "w call builtin:list.pop" => (k_here; k_dflt (refine pop_last (by k_asm) (by k_asm) (by k_upd) (by first | omega | assumption) ?_); intro _ _ _; (try k_sweep))
  k_with "w call builtin:list.extend" => (k_here; (with_reducible show wpAny _ _ (call (Value.builtin _) [Value.ref _, Value.ref _]) _ _ _); k_dflt (refine ext_ints (by k_asm) (by k_asm) (by k_mem) (by k_updF) (by l_ints) (by k_extra "zL") ?_); intro _ _ _ zN; (try dsimp only at zN); (try k_sweep))
  k_with "w setAttr ref" => (k_here; k_dflt (refine set_s (by k_asm) (by k_asm) (by k_asm) (by k_inst) (by rfl) (by k_is) (by k_is) (by k_is) (by k_is) (by k_get) (by k_put) (by k_updF) (by exact Nat.le_of_ble_eq_true rfl) ?_; k_whole); intro _ _ _ _ _; (try k_sweep))
  k_with "w call builtin:list.append" => (k_here; (with_reducible show wpAny _ _ (call (Value.builtin _) [Value.ref _, _]) _ _ _); k_dflt (refine app_any (by k_asm) (by k_asm) (by k_upd) (by first | omega | k_extra "zL") ?_); intro _ _ zN; (try dsimp only at zN); (try k_sweep))
  k_with "w execs cons" => (k_here; first | (refine execs_shut (s := ‹Shared›) ?_; intro _ _ _) | (refine execs_lit ?_; intro _ _ _) | (refine execs_shut0 ?_; intro _ _))
  k_with "w SPost" => first | refine spost_next (by assumption) ?_ | refine spost_ret (by assumption) ?_ | refine spost_cont (by assumption) ?_ | refine spost_brk (by assumption) ?_
  k_with "w CPost" => (refine cpost_of (by assumption) ?_)
  k_with "w WPost" => (dsimp only [WPost])
  k_with "w ksw_same" => (intro zz z3; (simp only [List.contains_cons, List.contains_nil, Bool.or_false, Bool.or_eq_false_iff, beq_eq_false_iff_ne, ne_eq] at z3); first | (simp [z3]; done) | (simp +zetaDelta [z3]; done))
  k_with "w FPost" => (dsimp only [FPost])
  k_with "w execs nil" => with_reducible refine wpAny_execs_nil ?_
  k_with "w call builtin:len" => (k_here; (with_reducible show wpAny _ _ (call (Value.builtin "len") [Value.ref _]) _ _ _); (refine len_ints (by k_asm) (by k_dflt k_mem) (by with_reducible assumption) (by k_extra "zL") ?_); (try simp only [List.length_map]))
  k_with "w eval Dict" => (k_here; k_dflt (refine kdn_str (by rfl) (by k_asm) (by first | k_asm | exact News.nil) (by exact Top.nolimit (by k_asm)) (by rfl) (by rfl) (by exact List.cons_ne_nil _ _) (by exact Nat.le_of_ble_eq_true rfl) ?_); intro zd zh zo zF zN zl zlo zhd; (try k_lt zl))
  k_with "w eval Constant int" => (with_reducible refine const_int_s ?_; intro _)
  k_with "w eval Constant str" => (with_reducible refine const_str_s ?_; intro _)
  k_with "w binaryOp Add int int" => (with_reducible refine add_int_s ?_; intro _)
  k_with "w binaryOp Sub int int" => (with_reducible refine sub_int_s ?_; intro _)
  k_with "w storeName" => (k_here; k_dflt (refine store_s (by k_asm) (by k_asm) ?_ rfl rfl; k_whole); intro _ _ _ _ _; (try k_sweep))
  k_with "w newTuple" => (k_here; kup_bare; k_dflt (refine tuple_s (by k_asm) (by k_asm) ?_ (by kmk_size)); intro _ _ _ _ zl; (try k_lt zl); (try k_sweep))
  k_with "w ktr_enter" => first | (refine enter_s (by k_extra "zC") rfl rfl (by first | assumption | exact rfl) (by k_is) (by k_is) (by ktr_room) (by first | exact BindsTo.of_eq rfl | exact binds_K (by k_in) rfl (by k_is) rfl rfl rfl) (by exact locs rfl) (by rfl) ?_ (by rfl) (by rfl) (by rfl) (by decide); k_whole; intro _ _ _ _ _ _ _ _ _ _ _ _; (try dsimp only); (try k_fold)) | (refine enterC_s (by k_extra "zC") rfl rfl (by first | assumption | exact rfl) (by k_is) (by k_is) (by ktr_room) (by first | exact BindsTo.of_eq rfl | exact binds_K (by k_in) rfl (by k_is) rfl rfl rfl) (by rfl) (by decide +kernel) ?_ (by rfl) (by rfl) (by rfl); k_whole; intro _ _ _ _ _ _ _ _ _ zN zY _ _ _ zl; (try k_lt zl); k_cells zY; (try simp only [List.cons_append, List.nil_append] at zN); (try dsimp only); (try k_fold))
  k_with "w getAttr ref" => (k_here; (with_reducible show wpAny _ _ (getAttr (Value.ref (AD.x (TS.A _ _))) _ _) _ _ _); first | ((with_reducible (first | apply rs_number | apply rs_sort | apply rs_parent | apply rs_left | apply rs_top | apply rs_width | apply rs_height)); (next => k_extra "zP"); intro _ _) | ((with_reducible (apply rs_children)); (next => k_extra "zP"); intro _) | ((with_reducible (first | apply rs_buffer | apply rs_start | apply rs_point | apply rs_hscroll)); (next => k_extra "zP"); intro _ _ _) | ((with_reducible (apply rs_earlier)); (next => k_extra "zP"); intro _ _ _ _))
  k_with "w getAttr ref" => (k_here; (with_reducible show wpAny _ _ (getAttr (Value.ref (TS.x _)) _ _) _ _ _); first | ((with_reducible (apply rs_t_windows)); (next => k_extra "zQ"); intro _) | ((with_reducible (first | apply rs_t_root | apply rs_t_selected | apply rs_t_last | apply rs_t_least_width | apply rs_t_least_height)); (next => k_extra "zQ"); intro _ _) | ((with_reducible (apply rs_t_clock)); (next => k_extra "zQ"); intro _ _ _))
  k_with "w getMethod ref" => (k_here; (with_reducible show wpAny _ _ (getMethod (Value.ref (AD.x (TS.A _ _))) _ _) _ _ _); ((with_reducible (first | apply ms_size | apply ms_set_size | apply ms_place | apply ms_shown | apply ms_show)); (next => k_extra "zP")))
  k_with "w getMethod ref" => (k_here; (with_reducible show wpAny _ _ (getMethod (Value.ref (TS.x _)) _ _) _ _ _); ((with_reducible (first | apply ms_t_window | apply ms_t_leaf | apply ms_t_touch | apply ms_t_fresh | apply ms_t_select | apply ms_t_least_leaf)); (next => k_extra "zQ")))
  k_with "w k_all" => first | assumption | exact all_succ (by assumption) | exact all_succ2 (by assumption)
  k_with "w subscriptTail" => (k_here; (with_reducible apply it_tail); (next => k_asm); (next => k_extra "zT"); rotate_left; (next => with_unfolding_all rfl))
  k_with "w getItem ref int" => (k_here; (with_reducible apply it_get); (next => k_asm); (next => k_extra "zT"); (next => k_extra "zn"))
  k_with "w getMethod ref" => (k_here; (with_reducible apply it_getm); (next => k_asm); (next => k_extra "zT"))
  k_with "w call builtin:dict.get" => (k_here; (with_reducible apply it_get2); (next => k_asm); (next => k_extra "zT"); (next => k_extra "zn"))
  k_with "w setAttr ref" => (k_here; (with_reducible show wpAny _ _ (setAttr (Value.ref (AD.x (TS.A _ _))) _ (Value.int _ _)) _ _ _); ((with_reducible (first | apply ws_parent | apply ws_left | apply ws_top | apply ws_width | apply ws_height | apply ws_buffer | apply ws_start | apply ws_point | apply ws_hscroll | apply ws_use_time)); (next => k_extra "zP"); intro _ _ _ _ _ _; (try k_sweep)))
  k_with "w setAttr ref" => (k_here; (with_reducible show wpAny _ _ (setAttr (Value.ref (TS.x _)) _ (Value.int _ _)) _ _ _); ((with_reducible (first | apply ws_t_last | apply ws_t_clock | apply ws_t_root | apply ws_t_selected)); (next => k_extra "zX"); intro _ _ _ _ _ _; (try k_sweep)))
  k_with "w exec Raise some none" => (first | (exfalso; omega) | (k_here; (with_reducible show wpAny _ _ (exec (Stmt.Raise (some (Expr.Call (Expr.Name (Str.ofString "LispSignal") _) _ _ _)) none _) _) _ _ _); k_dflt (refine raise_K rfl ?_)))
  k_with "w call ref" => (k_here; k_dflt (refine exc_call (by k_asm) (by k_asm) (by k_asm) ?_); intro _ _ _ _ _ _; refine wpAny_call ?_; k_dflt ktr_enter)
  k_with "w setAttr ref" => (k_here; (with_reducible show wpAny _ _ (setAttr (Value.ref _) (Str.ofString "symbol") _) _ _ _); k_dflt (refine exc_store0 (by k_asm) (by k_asm) (by k_asm) (by assumption) (by exact (sig_facts _).2.2.2.1) (by exact lk_exc _ (.inl rfl)) ?_); intro _ _ _ _ _ _ _ _ _)
  k_with "w setAttr ref" => (k_here; (with_reducible show wpAny _ _ (setAttr (Value.ref _) (Str.ofString "data") _) _ _ _); k_dflt (refine exc_store1 (by k_asm) (by k_asm) (by k_asm) (by assumption) (by assumption) (by assumption) (by assumption) (by exact (sig_facts _).2.2.2.2.1) (by exact lk_exc _ (.inr rfl)) ?_ (by exact Within.cons _ _ Within.nil) (by (rw [sizeLine_eq]; decide))); intro _ _ _ _ _ _)
  k_with "w RaiseK" => (k_here; k_dflt (refine raiseK_intro (by k_asm) (by k_asm) (by k_asm) (by k_mem) ?_))
  k_with "w And" => ((with_reducible show Value.none = Value.none ∧ _); refine ⟨rfl, ?_⟩)
  k_with "zh" => first | exact rfl | assumption
  k_with "zp" => first | k_extra "zT" | exact trivial
  trivial
theorem split_raises {w : World} {mean : ExcName → Option Value} {mg mb : Str → Option Value} (S : TS) (tx : Addr) (hx : S.x = tx) (n : Int) (t : Tok) {r : Int} {k : Fo} {wide high : Int} (H : Full S r k wide high) (hn : n ∈ r :: k.all) (hs0 : (S.W n).sort = 0) (ax : Int) (hax : ax = 0 ∨ ax = 1) (ta : Tok) (ah : Bool) (hsz : S.dom.length ≤ 900) (hkz : k.size ≤ 900) (h1 : ¬ (leastI ax ≤ sizeI ax (S.W n) - halfI ax (S.W n) ∧ leastI ax ≤ halfI ax (S.W n))) :
    RaisesOk w mean mg mb (.ref 339) [.ref tx, .int n t, .none, .int ax ta, .bool ah] 80 2000 (fun news => TreeIn w news S) (Str.ofString "error") := by
  subst hx
  unfold RaisesOk
  k_fill
  intro dp un gd cn cs a ccd cl outer A₀ base h₀ L m news s Q E B F X N Tp hk hT hd hu hexc
  refine wpAny_call ?_
  k_dflt ktr_enter
  k_with "call ref" => refine stop ?_
  have hnd := H.tre.dom n hn
  have hst := H.tre.stand hn hs0
  k_steps
  refine go ?_
  (with_reducible show wpAny _ _ (call (Value.ref 325) _) _ _ _)
  ktr_call 1 (split_parts_raises S _ rfl n hnd _ hs0 hst.kids ax _ h1)
  intro e ed oD mA tk g h' tk' F' lU R' O' hy
  (try dsimp only)
  k_steps
  rename RaisedP _ _ _ _ _ _ => lR
  rename Heap.UpToSlots _ _ => lU2
  exact hexc _ _ _ _ _ _ _ _ (by assumption) lU2 lR O' hy
end
section
theorem fresh_M15 : True := by
  w_top off
  k_with_none
  k_with "w k_mem" => (with_unfolding_all refine memIn ?_; ktr_member)
  k_with "w units_room" => ktr_units
  k_with "w k_room" => ktr_room
  k_with "zT" => first | assumption | ((refine TreeIn.mono (by assumption) ?_); repeat (first | exact sub_nil | refine sub_tail ?_))
  k_with "zn" => first | assumption | exact .head _ | exact .tail _ (by assumption)
  k_with "zA" => first | k_extra "zx" | exact upd_ne _ _ (by first | assumption | exact Ne.symm (by assumption))
  k_with "zx" => first | with_reducible rfl | assumption
  k_with "zP" => exact ⟨by k_asm, by k_asm, by k_asm, by k_extra "zT", by k_extra "zn", by k_extra "zA"⟩
  k_with "zQ" => exact ⟨by k_asm, by k_asm, by k_asm, by k_extra "zT", by k_extra "zx", by k_extra "zx"⟩
  k_with "zX" => exact ⟨by k_asm, by k_asm, by k_asm, by k_extra "zT", by k_extra "zx"⟩
  k_with "zC" => exact ⟨by k_asm, by k_asm, by k_asm, by k_asm, by k_asm⟩
  k_with "w ktr_room" => first | exact room1 (by assumption) rfl | exact room0 (by assumption) rfl | exact room2 (by assumption) rfl | ((simp +zetaDelta only [depth_under_make, depth_under_kw, depth_in1, depth_deeper, depth_caller, recursionLimit] at *); omega)
  k_with "w ktr_units" => first | exact room0 (by assumption) rfl | exact room1 (by assumption) rfl | (have zcL := cLine_is; (simp +zetaDelta only [units_in1, units_deeper, Around.mark_units, units_caller] at *); omega)
  k_with "zL" => ((try simp only [List.length_reverse, List.length_map, List.length_append, List.length_cons, List.length_nil]); omega)
  k_with "w call builtin:list.pop" => (k_here; k_dflt (refine pop_last (by k_asm) (by k_asm) (by k_upd) (by first | omega | assumption) ?_); intro _ _ _; (try k_sweep))
  k_with "w call builtin:list.extend" => (k_here; (with_reducible show wpAny _ _ (call (Value.builtin _) [Value.ref _, Value.ref _]) _ _ _); k_dflt (refine ext_ints (by k_asm) (by k_asm) (by k_mem) (by k_updF) (by l_ints) (by k_extra "zL") ?_); intro _ _ _ zN; (try dsimp only at zN); (try k_sweep))
  k_with "w setAttr ref" => (k_here; k_dflt (refine set_s (by k_asm) (by k_asm) (by k_asm) (by k_inst) (by rfl) (by k_is) (by k_is) (by k_is) (by k_is) (by k_get) (by k_put) (by k_updF) (by exact Nat.le_of_ble_eq_true rfl) ?_; k_whole); intro _ _ _ _ _; (try k_sweep))
  k_with "w call builtin:list.append" => (k_here; (with_reducible show wpAny _ _ (call (Value.builtin _) [Value.ref _, _]) _ _ _); k_dflt (refine app_any (by k_asm) (by k_asm) (by k_upd) (by first | omega | k_extra "zL") ?_); intro _ _ zN; (try dsimp only at zN); (try k_sweep))
  k_with "w execs cons" => (k_here; first | (refine execs_shut (s := ‹Shared›) ?_; intro _ _ _) | (refine execs_lit ?_; intro _ _ _) | (refine execs_shut0 ?_; intro _ _))
  k_with "w SPost" => first | refine spost_next (by assumption) ?_ | refine spost_ret (by assumption) ?_ | refine spost_cont (by assumption) ?_ | refine spost_brk (by assumption) ?_
  k_with "w CPost" => (refine cpost_of (by assumption) ?_)
  k_with "w WPost" => (dsimp only [WPost])
  k_with "w ksw_same" => (intro zz z3; (simp only [List.contains_cons, List.contains_nil, Bool.or_false, Bool.or_eq_false_iff, beq_eq_false_iff_ne, ne_eq] at z3); first | (simp [z3]; done) | (simp +zetaDelta [z3]; done))
  k_with "w FPost" => (dsimp only [FPost])
  k_with "w execs nil" => with_reducible refine wpAny_execs_nil ?_
  k_with "w call builtin:len" => (k_here; (with_reducible show wpAny _ _ (call (Value.builtin "len") [Value.ref _]) _ _ _); (refine len_ints (by k_asm) (by k_dflt k_mem) (by with_reducible assumption) (by k_extra "zL") ?_); (try simp only [List.length_map]))
  k_with "w eval Dict" => (k_here; k_dflt (refine kdn_str (by rfl) (by k_asm) (by first | k_asm | exact News.nil) (by exact Top.nolimit (by k_asm)) (by rfl) (by rfl) (by exact List.cons_ne_nil _ _) (by exact Nat.le_of_ble_eq_true rfl) ?_); intro zd zh zo zF zN zl zlo zhd; (try k_lt zl))
  k_with "w eval Constant int" => (with_reducible refine const_int_s ?_; intro _)
  k_with "w eval Constant str" => (with_reducible refine const_str_s ?_; intro _)
  k_with "w binaryOp Add int int" => (with_reducible refine add_int_s ?_; intro _)
  k_with "w binaryOp Sub int int" => (with_reducible refine sub_int_s ?_; intro _)
  k_with "w storeName" => (k_here; k_dflt (refine store_s (by k_asm) (by k_asm) ?_ rfl rfl; k_whole); intro _ _ _ _ _; (try k_sweep))
  k_with "w newTuple" => (k_here; kup_bare; k_dflt (refine tuple_s (by k_asm) (by k_asm) ?_ (by kmk_size)); intro _ _ _ _ zl; (try k_lt zl); (try k_sweep))
  k_with "w ktr_enter" => first | (refine enter_s (by k_extra "zC") rfl rfl (by first | assumption | exact rfl) (by k_is) (by k_is) (by ktr_room) (by first | exact BindsTo.of_eq rfl | exact binds_K (by k_in) rfl (by k_is) rfl rfl rfl) (by exact locs rfl) (by rfl) ?_ (by rfl) (by rfl) (by rfl) (by decide); k_whole; intro _ _ _ _ _ _ _ _ _ _ _ _; (try dsimp only); (try k_fold)) | (refine enterC_s (by k_extra "zC") rfl rfl (by first | assumption | exact rfl) (by k_is) (by k_is) (by ktr_room) (by first | exact BindsTo.of_eq rfl | exact binds_K (by k_in) rfl (by k_is) rfl rfl rfl) (by rfl) (by decide +kernel) ?_ (by rfl) (by rfl) (by rfl); k_whole; intro _ _ _ _ _ _ _ _ _ zN zY _ _ _ zl; (try k_lt zl); k_cells zY; (try simp only [List.cons_append, List.nil_append] at zN); (try dsimp only); (try k_fold))
  k_with "w getAttr ref" => (k_here; (with_reducible show wpAny _ _ (getAttr (Value.ref (AD.x (TS.A _ _))) _ _) _ _ _); first | ((with_reducible (first | apply rs_number | apply rs_sort | apply rs_parent | apply rs_left | apply rs_top | apply rs_width | apply rs_height)); (next => k_extra "zP"); intro _ _) | ((with_reducible (apply rs_children)); (next => k_extra "zP"); intro _) | ((with_reducible (first | apply rs_buffer | apply rs_start | apply rs_point | apply rs_hscroll)); (next => k_extra "zP"); intro _ _ _) | ((with_reducible (apply rs_earlier)); (next => k_extra "zP"); intro _ _ _ _))
  k_with "w getAttr ref" => (k_here; (with_reducible show wpAny _ _ (getAttr (Value.ref (TS.x _)) _ _) _ _ _); first | ((with_reducible (apply rs_t_windows)); (next => k_extra "zQ"); intro _) | ((with_reducible (first | apply rs_t_root | apply rs_t_selected | apply rs_t_last | apply rs_t_least_width | apply rs_t_least_height)); (next => k_extra "zQ"); intro _ _) | ((with_reducible (apply rs_t_clock)); (next => k_extra "zQ"); intro _ _ _))
  k_with "w getMethod ref" => (k_here; (with_reducible show wpAny _ _ (getMethod (Value.ref (AD.x (TS.A _ _))) _ _) _ _ _); ((with_reducible (first | apply ms_size | apply ms_set_size | apply ms_place | apply ms_shown | apply ms_show)); (next => k_extra "zP")))
  k_with "w getMethod ref" => (k_here; (with_reducible show wpAny _ _ (getMethod (Value.ref (TS.x _)) _ _) _ _ _); ((with_reducible (first | apply ms_t_window | apply ms_t_leaf | apply ms_t_touch | apply ms_t_fresh | apply ms_t_select | apply ms_t_least_leaf)); (next => k_extra "zQ")))
  k_with "w k_all" => first | assumption | exact all_succ (by assumption) | exact all_succ2 (by assumption)
  k_with "w subscriptTail" => (k_here; (with_reducible apply it_tail); (next => k_asm); (next => k_extra "zT"); rotate_left; (next => with_unfolding_all rfl))
  k_with "w getItem ref int" => (k_here; (with_reducible apply it_get); (next => k_asm); (next => k_extra "zT"); (next => k_extra "zn"))
  k_with "w getMethod ref" => (k_here; (with_reducible apply it_getm); (next => k_asm); (next => k_extra "zT"))
  k_with "w call builtin:dict.get" => (k_here; (with_reducible apply it_get2); (next => k_asm); (next => k_extra "zT"); (next => k_extra "zn"))
  k_with "w setAttr ref" => (k_here; (with_reducible show wpAny _ _ (setAttr (Value.ref (AD.x (TS.A _ _))) _ (Value.int _ _)) _ _ _); ((with_reducible (first | apply ws_parent | apply ws_left | apply ws_top | apply ws_width | apply ws_height | apply ws_buffer | apply ws_start | apply ws_point | apply ws_hscroll | apply ws_use_time)); (next => k_extra "zP"); intro _ _ _ _ _ _; (try k_sweep)))
  k_with "w setAttr ref" => (k_here; (with_reducible show wpAny _ _ (setAttr (Value.ref (TS.x _)) _ (Value.int _ _)) _ _ _); ((with_reducible (first | apply ws_t_last | apply ws_t_clock | apply ws_t_root | apply ws_t_selected)); (next => k_extra "zX"); intro _ _ _ _ _ _; (try k_sweep)))
  k_with "w exec Raise some none" => (first | (exfalso; omega) | (k_here; (with_reducible show wpAny _ _ (exec (Stmt.Raise (some (Expr.Call (Expr.Name (Str.ofString "LispSignal") _) _ _ _)) none _) _) _ _ _); k_dflt (refine raise_K rfl ?_)))
  k_with "w call ref" => (k_here; k_dflt (refine exc_call (by k_asm) (by k_asm) (by k_asm) ?_); intro _ _ _ _ _ _; refine wpAny_call ?_; k_dflt ktr_enter)
  k_with "w setAttr ref" => (k_here; (with_reducible show wpAny _ _ (setAttr (Value.ref _) (Str.ofString "symbol") _) _ _ _); k_dflt (refine exc_store0 (by k_asm) (by k_asm) (by k_asm) (by assumption) (by exact (sig_facts _).2.2.2.1) (by exact lk_exc _ (.inl rfl)) ?_); intro _ _ _ _ _ _ _ _ _)
  k_with "w setAttr ref" => (k_here; (with_reducible show wpAny _ _ (setAttr (Value.ref _) (Str.ofString "data") _) _ _ _); k_dflt (refine exc_store1 (by k_asm) (by k_asm) (by k_asm) (by assumption) (by assumption) (by assumption) (by assumption) (by exact (sig_facts _).2.2.2.2.1) (by exact lk_exc _ (.inr rfl)) ?_ (by exact Within.cons _ _ Within.nil) (by (rw [sizeLine_eq]; decide))); intro _ _ _ _ _ _)
  k_with "w RaiseK" => (k_here; k_dflt (refine raiseK_intro (by k_asm) (by k_asm) (by k_asm) (by k_mem) ?_))
  k_with "w And" => ((with_reducible show Value.none = Value.none ∧ _); refine ⟨rfl, ?_⟩)
  k_with "zh" => first | exact rfl | assumption
  k_with "zp" => first | k_extra "zT" | exact trivial
  trivial
theorem other_window_ok {w : World} {mean : ExcName → Option Value} {mg mb : Str → Option Value} (S : TS) (tx : Addr) (hx : S.x = tx) (lv : List Int) (hL : Lv S lv) (n : Int) (hsel : S.selected = n) (i : Nat) (hi : lv[i]? = some n) (hnd : lv.Nodup) (cnt : Int) (tc : Tok) (hr : ringAt lv i cnt ∈ lv) :
    CallOk w mean mg mb (.ref 238) [.ref tx, .int cnt tc] 50 1000 (fun news => TreeIn w news S) (fun news news' v => TreeIn w news' { S with selected := ringAt lv i cnt } ∧ ∃ t, v = .int (ringAt lv i cnt) t) := by
  subst hx
  subst hsel
  unfold CallOk
  k_fill
  intro dp un gd cn cs a ccd cl outer A₀ base h₀ L m news s Q E B F X N Tp hk hT hd hu hret
  refine wpAny_call ?_
  k_dflt ktr_enter
  k_with "call ref" =>
    first
    | (with_reducible show wpAny _ _ (call (Value.ref 217) _) _ _ _)
      ktr_call 0 (ring_from_ok S _ rfl lv hL _ i hi hnd _ _ _)
      intro r' news' h' tk' F' N' P'
      obtain ⟨rfl, tk9, rfl⟩ := P'
      (try dsimp only)
      (try simp only [AllLt, and_true] at l9)
      (try simp only [AllLt, and_true] at hl')
    | (with_reducible show wpAny _ _ (call (Value.ref 147) _) _ _ _)
      ktr_call 0 (select_ok S _ rfl _ (hL.dom _ hr) _ (hL.sort _ hr))
      intro r' news' h' tk' F' N' P'
      obtain ⟨hT9, rfl⟩ := P'
      (try dsimp only)
  have hlen := hL.len
  have hilt := lt_of_get hi
  have hn := hL.dom _ (List.mem_of_getElem? hi)
  have hs0 := hL.sort _ (List.mem_of_getElem? hi)
  k_steps
  exact hret _ _ _ _ (by assumption) (by assumption) ⟨hT9, ktn_int rfl⟩

theorem sel_dir_left {w : World} {mean : ExcName → Option Value} {mg mb : Str → Option Value} (S : TS) (tx : Addr) (hx : S.x = tx) (lv : List Int) (hL : Lv S lv) (n : Int) (hsel : S.selected = n) (hn : n ∈ S.dom) (hs0 : (S.W n).sort = 0) (off : Int) (tw to : Tok) (hr : cellOf S.W lv (beyond (S.W n) off 0).1 (beyond (S.W n) off 0).2 ∈ lv) (hz : cellOf S.W lv (beyond (S.W n) off 0).1 (beyond (S.W n) off 0).2 ≠ 0) :
    CallOk w mean mg mb (.ref 268) [.ref tx, .str (Str.ofString "left") tw, .int off to] 60 1200 (fun news => TreeIn w news S) (fun news news' v => TreeIn w news' { S with selected := cellOf S.W lv (beyond (S.W n) off 0).1 (beyond (S.W n) off 0).2 } ∧ ∃ t, v = .int (cellOf S.W lv (beyond (S.W n) off 0).1 (beyond (S.W n) off 0).2) t) := by
  subst hx
  subst hsel
  unfold CallOk
  k_fill
  intro dp un gd cn cs a ccd cl outer A₀ base h₀ L m news s Q E B F X N Tp hk hT hd hu hret
  refine wpAny_call ?_
  k_dflt ktr_enter
  k_with "call ref" =>
    first
    | (with_reducible show wpAny _ _ (call (Value.ref 260) _) _ _ _)
      ktr_call 0 (in_direction_left S _ rfl _ hn _ lv hL hs0 off _ _)
      intro r' news' h' tk' F' N' P'
      obtain ⟨rfl, tk9, rfl⟩ := P'
      (try dsimp only)
      (try simp only [AllLt, and_true] at l9)
      (try simp only [AllLt, and_true] at hl')
    | (with_reducible show wpAny _ _ (call (Value.ref 147) _) _ _ _)
      ktr_call 0 (select_ok S _ rfl _ (hL.dom _ hr) _ (hL.sort _ hr))
      intro r' news' h' tk' F' N' P'
      obtain ⟨hT9, rfl⟩ := P'
      (try dsimp only)
  k_steps
  exact hret _ _ _ _ (by assumption) (by assumption) ⟨hT9, ktn_int rfl⟩

theorem sel_dir_left_raises {w : World} {mean : ExcName → Option Value} {mg mb : Str → Option Value} (S : TS) (tx : Addr) (hx : S.x = tx) (lv : List Int) (hL : Lv S lv) (n : Int) (hsel : S.selected = n) (hn : n ∈ S.dom) (hs0 : (S.W n).sort = 0) (off : Int) (tw to : Tok) (hz : cellOf S.W lv (beyond (S.W n) off 0).1 (beyond (S.W n) off 0).2 = 0) :
    RaisesOk w mean mg mb (.ref 268) [.ref tx, .str (Str.ofString "left") tw, .int off to] 60 1200 (fun news => TreeIn w news S) (Str.ofString "user-error") := by
  subst hx
  subst hsel
  unfold RaisesOk
  k_fill
  intro dp un gd cn cs a ccd cl outer A₀ base h₀ L m news s Q E B F X N Tp hk hT hd hu hexc
  refine wpAny_call ?_
  k_dflt ktr_enter
  k_with "call ref" =>
    first
    | (with_reducible show wpAny _ _ (call (Value.ref 260) _) _ _ _)
      ktr_call 0 (in_direction_left S _ rfl _ hn _ lv hL hs0 off _ _)
      intro r' news' h' tk' F' N' P'
      obtain ⟨rfl, tk9, rfl⟩ := P'
      (try dsimp only)
      (try simp only [AllLt, and_true] at l9)
      (try simp only [AllLt, and_true] at hl')
    | (exfalso; omega)
  k_steps
  all_goals
    rename RaisedP _ _ _ _ _ _ => lR
    rename Heap.UpToSlots _ _ => lU
    rename NsObj _ _ _ => lO
    exact hexc _ _ _ _ _ _ _ _ (by assumption) lU (lR.sub (sub_cons (.head _) (sub_tail (sub_tail sub_nil)))) lO rfl

theorem sel_dir_right {w : World} {mean : ExcName → Option Value} {mg mb : Str → Option Value} (S : TS) (tx : Addr) (hx : S.x = tx) (lv : List Int) (hL : Lv S lv) (n : Int) (hsel : S.selected = n) (hn : n ∈ S.dom) (hs0 : (S.W n).sort = 0) (off : Int) (tw to : Tok) (hr : cellOf S.W lv (beyond (S.W n) off 1).1 (beyond (S.W n) off 1).2 ∈ lv) (hz : cellOf S.W lv (beyond (S.W n) off 1).1 (beyond (S.W n) off 1).2 ≠ 0) :
    CallOk w mean mg mb (.ref 268) [.ref tx, .str (Str.ofString "right") tw, .int off to] 60 1200 (fun news => TreeIn w news S) (fun news news' v => TreeIn w news' { S with selected := cellOf S.W lv (beyond (S.W n) off 1).1 (beyond (S.W n) off 1).2 } ∧ ∃ t, v = .int (cellOf S.W lv (beyond (S.W n) off 1).1 (beyond (S.W n) off 1).2) t) := by
  subst hx
  subst hsel
  unfold CallOk
  k_fill
  intro dp un gd cn cs a ccd cl outer A₀ base h₀ L m news s Q E B F X N Tp hk hT hd hu hret
  refine wpAny_call ?_
  k_dflt ktr_enter
  k_with "call ref" =>
    first
    | (with_reducible show wpAny _ _ (call (Value.ref 260) _) _ _ _)
      ktr_call 0 (in_direction_right S _ rfl _ hn _ lv hL hs0 off _ _)
      intro r' news' h' tk' F' N' P'
      obtain ⟨rfl, tk9, rfl⟩ := P'
      (try dsimp only)
      (try simp only [AllLt, and_true] at l9)
      (try simp only [AllLt, and_true] at hl')
    | (with_reducible show wpAny _ _ (call (Value.ref 147) _) _ _ _)
      ktr_call 0 (select_ok S _ rfl _ (hL.dom _ hr) _ (hL.sort _ hr))
      intro r' news' h' tk' F' N' P'
      obtain ⟨hT9, rfl⟩ := P'
      (try dsimp only)
  k_steps
  exact hret _ _ _ _ (by assumption) (by assumption) ⟨hT9, ktn_int rfl⟩

theorem sel_dir_right_raises {w : World} {mean : ExcName → Option Value} {mg mb : Str → Option Value} (S : TS) (tx : Addr) (hx : S.x = tx) (lv : List Int) (hL : Lv S lv) (n : Int) (hsel : S.selected = n) (hn : n ∈ S.dom) (hs0 : (S.W n).sort = 0) (off : Int) (tw to : Tok) (hz : cellOf S.W lv (beyond (S.W n) off 1).1 (beyond (S.W n) off 1).2 = 0) :
    RaisesOk w mean mg mb (.ref 268) [.ref tx, .str (Str.ofString "right") tw, .int off to] 60 1200 (fun news => TreeIn w news S) (Str.ofString "user-error") := by
  subst hx
  subst hsel
  unfold RaisesOk
  k_fill
  intro dp un gd cn cs a ccd cl outer A₀ base h₀ L m news s Q E B F X N Tp hk hT hd hu hexc
  refine wpAny_call ?_
  k_dflt ktr_enter
  k_with "call ref" =>
    first
    | (with_reducible show wpAny _ _ (call (Value.ref 260) _) _ _ _)
      ktr_call 0 (in_direction_right S _ rfl _ hn _ lv hL hs0 off _ _)
      intro r' news' h' tk' F' N' P'
      obtain ⟨rfl, tk9, rfl⟩ := P'
      (try dsimp only)
      (try simp only [AllLt, and_true] at l9)
      (try simp only [AllLt, and_true] at hl')
    | (exfalso; omega)
  k_steps
  all_goals
    rename RaisedP _ _ _ _ _ _ => lR
    rename Heap.UpToSlots _ _ => lU
    rename NsObj _ _ _ => lO
    exact hexc _ _ _ _ _ _ _ _ (by assumption) lU (lR.sub (sub_cons (.head _) (sub_tail (sub_tail sub_nil)))) lO rfl

theorem sel_dir_above {w : World} {mean : ExcName → Option Value} {mg mb : Str → Option Value} (S : TS) (tx : Addr) (hx : S.x = tx) (lv : List Int) (hL : Lv S lv) (n : Int) (hsel : S.selected = n) (hn : n ∈ S.dom) (hs0 : (S.W n).sort = 0) (off : Int) (tw to : Tok) (hr : cellOf S.W lv (beyond (S.W n) off 2).1 (beyond (S.W n) off 2).2 ∈ lv) (hz : cellOf S.W lv (beyond (S.W n) off 2).1 (beyond (S.W n) off 2).2 ≠ 0) :
    CallOk w mean mg mb (.ref 268) [.ref tx, .str (Str.ofString "above") tw, .int off to] 60 1200 (fun news => TreeIn w news S) (fun news news' v => TreeIn w news' { S with selected := cellOf S.W lv (beyond (S.W n) off 2).1 (beyond (S.W n) off 2).2 } ∧ ∃ t, v = .int (cellOf S.W lv (beyond (S.W n) off 2).1 (beyond (S.W n) off 2).2) t) := by
  subst hx
  subst hsel
  unfold CallOk
  k_fill
  intro dp un gd cn cs a ccd cl outer A₀ base h₀ L m news s Q E B F X N Tp hk hT hd hu hret
  refine wpAny_call ?_
  k_dflt ktr_enter
  k_with "call ref" =>
    first
    | (with_reducible show wpAny _ _ (call (Value.ref 260) _) _ _ _)
      ktr_call 0 (in_direction_above S _ rfl _ hn _ lv hL hs0 off _ _)
      intro r' news' h' tk' F' N' P'
      obtain ⟨rfl, tk9, rfl⟩ := P'
      (try dsimp only)
      (try simp only [AllLt, and_true] at l9)
      (try simp only [AllLt, and_true] at hl')
    | (with_reducible show wpAny _ _ (call (Value.ref 147) _) _ _ _)
      ktr_call 0 (select_ok S _ rfl _ (hL.dom _ hr) _ (hL.sort _ hr))
      intro r' news' h' tk' F' N' P'
      obtain ⟨hT9, rfl⟩ := P'
      (try dsimp only)
  k_steps
  exact hret _ _ _ _ (by assumption) (by assumption) ⟨hT9, ktn_int rfl⟩

theorem sel_dir_above_raises {w : World} {mean : ExcName → Option Value} {mg mb : Str → Option Value} (S : TS) (tx : Addr) (hx : S.x = tx) (lv : List Int) (hL : Lv S lv) (n : Int) (hsel : S.selected = n) (hn : n ∈ S.dom) (hs0 : (S.W n).sort = 0) (off : Int) (tw to : Tok) (hz : cellOf S.W lv (beyond (S.W n) off 2).1 (beyond (S.W n) off 2).2 = 0) :
    RaisesOk w mean mg mb (.ref 268) [.ref tx, .str (Str.ofString "above") tw, .int off to] 60 1200 (fun news => TreeIn w news S) (Str.ofString "user-error") := by
  subst hx
  subst hsel
  unfold RaisesOk
  k_fill
  intro dp un gd cn cs a ccd cl outer A₀ base h₀ L m news s Q E B F X N Tp hk hT hd hu hexc
  refine wpAny_call ?_
  k_dflt ktr_enter
  k_with "call ref" =>
    first
    | (with_reducible show wpAny _ _ (call (Value.ref 260) _) _ _ _)
      ktr_call 0 (in_direction_above S _ rfl _ hn _ lv hL hs0 off _ _)
      intro r' news' h' tk' F' N' P'
      obtain ⟨rfl, tk9, rfl⟩ := P'
      (try dsimp only)
      (try simp only [AllLt, and_true] at l9)
      (try simp only [AllLt, and_true] at hl')
    | (exfalso; omega)
  k_steps
  all_goals
    rename RaisedP _ _ _ _ _ _ => lR
    rename Heap.UpToSlots _ _ => lU
    rename NsObj _ _ _ => lO
    exact hexc _ _ _ _ _ _ _ _ (by assumption) lU (lR.sub (sub_cons (.head _) (sub_tail (sub_tail sub_nil)))) lO rfl

theorem sel_dir_below {w : World} {mean : ExcName → Option Value} {mg mb : Str → Option Value} (S : TS) (tx : Addr) (hx : S.x = tx) (lv : List Int) (hL : Lv S lv) (n : Int) (hsel : S.selected = n) (hn : n ∈ S.dom) (hs0 : (S.W n).sort = 0) (off : Int) (tw to : Tok) (hr : cellOf S.W lv (beyond (S.W n) off 3).1 (beyond (S.W n) off 3).2 ∈ lv) (hz : cellOf S.W lv (beyond (S.W n) off 3).1 (beyond (S.W n) off 3).2 ≠ 0) :
    CallOk w mean mg mb (.ref 268) [.ref tx, .str (Str.ofString "below") tw, .int off to] 60 1200 (fun news => TreeIn w news S) (fun news news' v => TreeIn w news' { S with selected := cellOf S.W lv (beyond (S.W n) off 3).1 (beyond (S.W n) off 3).2 } ∧ ∃ t, v = .int (cellOf S.W lv (beyond (S.W n) off 3).1 (beyond (S.W n) off 3).2) t) := by
  subst hx
  subst hsel
  unfold CallOk
  k_fill
  intro dp un gd cn cs a ccd cl outer A₀ base h₀ L m news s Q E B F X N Tp hk hT hd hu hret
  refine wpAny_call ?_
  k_dflt ktr_enter
  k_with "call ref" =>
    first
    | (with_reducible show wpAny _ _ (call (Value.ref 260) _) _ _ _)
      ktr_call 0 (in_direction_below S _ rfl _ hn _ lv hL hs0 off _ _)
      intro r' news' h' tk' F' N' P'
      obtain ⟨rfl, tk9, rfl⟩ := P'
      (try dsimp only)
      (try simp only [AllLt, and_true] at l9)
      (try simp only [AllLt, and_true] at hl')
    | (with_reducible show wpAny _ _ (call (Value.ref 147) _) _ _ _)
      ktr_call 0 (select_ok S _ rfl _ (hL.dom _ hr) _ (hL.sort _ hr))
      intro r' news' h' tk' F' N' P'
      obtain ⟨hT9, rfl⟩ := P'
      (try dsimp only)
  k_steps
  exact hret _ _ _ _ (by assumption) (by assumption) ⟨hT9, ktn_int rfl⟩

theorem sel_dir_below_raises {w : World} {mean : ExcName → Option Value} {mg mb : Str → Option Value} (S : TS) (tx : Addr) (hx : S.x = tx) (lv : List Int) (hL : Lv S lv) (n : Int) (hsel : S.selected = n) (hn : n ∈ S.dom) (hs0 : (S.W n).sort = 0) (off : Int) (tw to : Tok) (hz : cellOf S.W lv (beyond (S.W n) off 3).1 (beyond (S.W n) off 3).2 = 0) :
    RaisesOk w mean mg mb (.ref 268) [.ref tx, .str (Str.ofString "below") tw, .int off to] 60 1200 (fun news => TreeIn w news S) (Str.ofString "user-error") := by
  subst hx
  subst hsel
  unfold RaisesOk
  k_fill
  intro dp un gd cn cs a ccd cl outer A₀ base h₀ L m news s Q E B F X N Tp hk hT hd hu hexc
  refine wpAny_call ?_
  k_dflt ktr_enter
  k_with "call ref" =>
    first
    | (with_reducible show wpAny _ _ (call (Value.ref 260) _) _ _ _)
      ktr_call 0 (in_direction_below S _ rfl _ hn _ lv hL hs0 off _ _)
      intro r' news' h' tk' F' N' P'
      obtain ⟨rfl, tk9, rfl⟩ := P'
      (try dsimp only)
      (try simp only [AllLt, and_true] at l9)
      (try simp only [AllLt, and_true] at hl')
    | (exfalso; omega)
  k_steps
  all_goals
    rename RaisedP _ _ _ _ _ _ => lR
    rename Heap.UpToSlots _ _ => lU
    rename NsObj _ _ _ => lO
    exact hexc _ _ _ _ _ _ _ _ (by assumption) lU (lR.sub (sub_cons (.head _) (sub_tail (sub_tail sub_nil)))) lO rfl

theorem sel_dir_ok {w : World} {mean : ExcName → Option Value} {mg mb : Str → Option Value} (S : TS) (tx : Addr) (hx : S.x = tx) (lv : List Int) (hL : Lv S lv) (n : Int) (hsel : S.selected = n) (hn : n ∈ S.dom) (hs0 : (S.W n).sort = 0) (off : Int) (tw to : Tok) (k : Nat) (hk : k < 4) (hr : cellOf S.W lv (beyond (S.W n) off k).1 (beyond (S.W n) off k).2 ∈ lv) (hz : cellOf S.W lv (beyond (S.W n) off k).1 (beyond (S.W n) off k).2 ≠ 0) :
    CallOk w mean mg mb (.ref 268) [.ref tx, .str (wordOf k) tw, .int off to] 60 1200 (fun news => TreeIn w news S) (fun news news' v => TreeIn w news' { S with selected := cellOf S.W lv (beyond (S.W n) off k).1 (beyond (S.W n) off k).2 } ∧ ∃ t, v = .int (cellOf S.W lv (beyond (S.W n) off k).1 (beyond (S.W n) off k).2) t) := by
  match k, hk with
  | 0, _ => exact sel_dir_left S tx hx lv hL n hsel hn hs0 off tw to hr hz
  | 1, _ => exact sel_dir_right S tx hx lv hL n hsel hn hs0 off tw to hr hz
  | 2, _ => exact sel_dir_above S tx hx lv hL n hsel hn hs0 off tw to hr hz
  | 3, _ => exact sel_dir_below S tx hx lv hL n hsel hn hs0 off tw to hr hz

theorem sel_dir_raises {w : World} {mean : ExcName → Option Value} {mg mb : Str → Option Value} (S : TS) (tx : Addr) (hx : S.x = tx) (lv : List Int) (hL : Lv S lv) (n : Int) (hsel : S.selected = n) (hn : n ∈ S.dom) (hs0 : (S.W n).sort = 0) (off : Int) (tw to : Tok) (k : Nat) (hk : k < 4) (hz : cellOf S.W lv (beyond (S.W n) off k).1 (beyond (S.W n) off k).2 = 0) :
    RaisesOk w mean mg mb (.ref 268) [.ref tx, .str (wordOf k) tw, .int off to] 60 1200 (fun news => TreeIn w news S) (Str.ofString "user-error") := by
  match k, hk with
  | 0, _ => exact sel_dir_left_raises S tx hx lv hL n hsel hn hs0 off tw to hz
  | 1, _ => exact sel_dir_right_raises S tx hx lv hL n hsel hn hs0 off tw to hz
  | 2, _ => exact sel_dir_above_raises S tx hx lv hL n hsel hn hs0 off tw to hz
  | 3, _ => exact sel_dir_below_raises S tx hx lv hL n hsel hn hs0 off tw to hz
end
section
section
variable {prog : Program} {w : World} {A : Around} {E : Value → Shared → Prop} {s : Shared} {h₀ : Heap} {L D b : Addr} {m : Str → Option Value} {news news' : Led} {n n2 : Nat}
theorem deck_sub0 {a c : Value} {t : Tok} {value slice : Expr} {Q : Value → Shared → Prop} (N : News h₀ L s.heap news) (hm : (D, listOf #[a, c] n) ∈ news) (h : Q a s)
    (hs : subscripted slice false (.ref D) (.int 0 t) = operate [.ref D, .int 0 t] (getItem (.ref D) (.int 0 t)) := by with_unfolding_all rfl) :
    wpAny (model prog w) A (subscriptTail value slice (.ref D) (.int 0 t)) Q E s :=
  get_tail N hm (wpAny_getItem_list ⟨_, (N _ hm).1, rfl, _, rfl⟩ (by decide) (by decide) rfl h) hs
theorem deck_sub1 {a c : Value} {t : Tok} {value slice : Expr} {Q : Value → Shared → Prop} (N : News h₀ L s.heap news) (hm : (D, listOf #[a, c] n) ∈ news) (h : Q c s)
    (hs : subscripted slice false (.ref D) (.int 1 t) = operate [.ref D, .int 1 t] (getItem (.ref D) (.int 1 t)) := by with_unfolding_all rfl) :
    wpAny (model prog w) A (subscriptTail value slice (.ref D) (.int 1 t)) Q E s :=
  get_tail N hm (wpAny_getItem_list ⟨_, (N _ hm).1, rfl, _, rfl⟩ (by decide) (by decide) rfl h) hs
theorem deck_set {a c v : Value} {t : Tok} {Q : Unit → Shared → Prop} (F : Fr h₀ L s.heap m) (N : News h₀ L s.heap news) (hm : (D, listOf #[a, c] n) ∈ news)
    (h : ∀ h', Fr h₀ L h' m → News h₀ L h' ((D, listOf #[a, v] n) :: off D news) → Q () { s with heap := h' }) :
    wpAny (model prog w) A (setItem (.ref D) (.int 1 t) v) Q E s := by
  have N' := news_turn N hm
  obtain ⟨pre, post, e1, e2, a', b⟩ := (upd_turn (D := D) (o := listOf #[a, c] n) (o' := listOf #[a, v] n) (l := news)).split
  rw [e1] at N'
  have z := N' (D, listOf #[a, c] n) (List.mem_append.mpr (.inr (.head _)))
  refine ki_setAt z.1 (by decide) (by decide) (by show (1 : Int) < ((2 : Nat) : Int); decide) (h _ (F.change (Heap.SameBut.update ..) z.2.1 z.2.2) ?_)
  rw [e2]
  exact ki_turn _ N' a' b rfl rfl
end
end
section
theorem fresh_M16 : True := by
  w_top off
  k_with_none
  k_with "w k_mem" => (with_unfolding_all refine memIn ?_; ktr_member)
  k_with "w units_room" => ktr_units
  k_with "w k_room" => ktr_room
  k_with "zT" => first | assumption | ((refine TreeIn.mono (by assumption) ?_); repeat (first | exact sub_nil | refine sub_tail ?_))
  k_with "zn" => first | assumption | exact .head _ | exact .tail _ (by assumption)
  k_with "zA" => first | k_extra "zx" | exact upd_ne _ _ (by first | assumption | exact Ne.symm (by assumption))
  k_with "zx" => first | with_reducible rfl | assumption
  k_with "zP" => exact ⟨by k_asm, by k_asm, by k_asm, by k_extra "zT", by k_extra "zn", by k_extra "zA"⟩
  k_with "zQ" => exact ⟨by k_asm, by k_asm, by k_asm, by k_extra "zT", by k_extra "zx", by k_extra "zx"⟩
  k_with "zX" => exact ⟨by k_asm, by k_asm, by k_asm, by k_extra "zT", by k_extra "zx"⟩
  k_with "zC" => exact ⟨by k_asm, by k_asm, by k_asm, by k_asm, by k_asm⟩
  k_with "w ktr_room" => first | exact room1 (by assumption) rfl | exact room0 (by assumption) rfl | exact room2 (by assumption) rfl | ((simp +zetaDelta only [depth_under_make, depth_under_kw, depth_in1, depth_deeper, depth_caller, recursionLimit] at *); omega)
  k_with "w ktr_units" => first | exact room0 (by assumption) rfl | exact room1 (by assumption) rfl | (have zcL := cLine_is; (simp +zetaDelta only [units_in1, units_deeper, Around.mark_units, units_caller] at *); omega)
  k_with "zL" => ((try simp only [List.length_reverse, List.length_map, List.length_append, List.length_cons, List.length_nil]); omega)
  k_with "w call builtin:list.pop" => (k_here; k_dflt (refine pop_last (by k_asm) (by k_asm) (by k_upd) (by first | omega | assumption) ?_); intro _ _ _; (try k_sweep))
  k_with "w call builtin:list.extend" => (k_here; (with_reducible show wpAny _ _ (call (Value.builtin _) [Value.ref _, Value.ref _]) _ _ _); k_dflt (refine ext_ints (by k_asm) (by k_asm) (by k_mem) (by k_updF) (by l_ints) (by k_extra "zL") ?_); intro _ _ _ zN; (try dsimp only at zN); (try k_sweep))
  k_with "w setAttr ref" => (k_here; k_dflt (refine set_s (by k_asm) (by k_asm) (by k_asm) (by k_inst) (by rfl) (by k_is) (by k_is) (by k_is) (by k_is) (by k_get) (by k_put) (by k_updF) (by exact Nat.le_of_ble_eq_true rfl) ?_; k_whole); intro _ _ _ _ _; (try k_sweep))
  k_with "w call builtin:list.append" => (k_here; (with_reducible show wpAny _ _ (call (Value.builtin _) [Value.ref _, _]) _ _ _); k_dflt (refine app_any (by k_asm) (by k_asm) (by k_upd) (by first | omega | k_extra "zL") ?_); intro _ _ zN; (try dsimp only at zN); (try k_sweep))
  k_with "w execs cons" => (k_here; first | (refine execs_shut (s := ‹Shared›) ?_; intro _ _ _) | (refine execs_lit ?_; intro _ _ _) | (refine execs_shut0 ?_; intro _ _))
  k_with "w SPost" => first | refine spost_next (by assumption) ?_ | refine spost_ret (by assumption) ?_ | refine spost_cont (by assumption) ?_ | refine spost_brk (by assumption) ?_
  k_with "w CPost" => (refine cpost_of (by assumption) ?_)
  k_with "w WPost" => (dsimp only [WPost])
  k_with "w ksw_same" => (intro zz z3; (simp only [List.contains_cons, List.contains_nil, Bool.or_false, Bool.or_eq_false_iff, beq_eq_false_iff_ne, ne_eq] at z3); first | (simp [z3]; done) | (simp +zetaDelta [z3]; done))
  k_with "w FPost" => (dsimp only [FPost])
  k_with "w execs nil" => with_reducible refine wpAny_execs_nil ?_
  k_with "w call builtin:len" => (k_here; (with_reducible show wpAny _ _ (call (Value.builtin "len") [Value.ref _]) _ _ _); (refine len_ints (by k_asm) (by k_dflt k_mem) (by with_reducible assumption) (by k_extra "zL") ?_); (try simp only [List.length_map]))
  k_with "w eval Dict" => (k_here; k_dflt (refine kdn_str (by rfl) (by k_asm) (by first | k_asm | exact News.nil) (by exact Top.nolimit (by k_asm)) (by rfl) (by rfl) (by exact List.cons_ne_nil _ _) (by exact Nat.le_of_ble_eq_true rfl) ?_); intro zd zh zo zF zN zl zlo zhd; (try k_lt zl))
  k_with "w eval Constant int" => (with_reducible refine const_int_s ?_; intro _)
  k_with "w eval Constant str" => (with_reducible refine const_str_s ?_; intro _)
  k_with "w binaryOp Add int int" => (with_reducible refine add_int_s ?_; intro _)
  k_with "w binaryOp Sub int int" => (with_reducible refine sub_int_s ?_; intro _)
  k_with "w storeName" => (k_here; k_dflt (refine store_s (by k_asm) (by k_asm) ?_ rfl rfl; k_whole); intro _ _ _ _ _; (try k_sweep))
  k_with "w newTuple" => (k_here; kup_bare; k_dflt (refine tuple_s (by k_asm) (by k_asm) ?_ (by kmk_size)); intro _ _ _ _ zl; (try k_lt zl); (try k_sweep))
  k_with "w ktr_enter" => first | (refine enter_s (by k_extra "zC") rfl rfl (by first | assumption | exact rfl) (by k_is) (by k_is) (by ktr_room) (by first | exact BindsTo.of_eq rfl | exact binds_K (by k_in) rfl (by k_is) rfl rfl rfl) (by exact locs rfl) (by rfl) ?_ (by rfl) (by rfl) (by rfl) (by decide); k_whole; intro _ _ _ _ _ _ _ _ _ _ _ _; (try dsimp only); (try k_fold)) | (refine enterC_s (by k_extra "zC") rfl rfl (by first | assumption | exact rfl) (by k_is) (by k_is) (by ktr_room) (by first | exact BindsTo.of_eq rfl | exact binds_K (by k_in) rfl (by k_is) rfl rfl rfl) (by rfl) (by decide +kernel) ?_ (by rfl) (by rfl) (by rfl); k_whole; intro _ _ _ _ _ _ _ _ _ zN zY _ _ _ zl; (try k_lt zl); k_cells zY; (try simp only [List.cons_append, List.nil_append] at zN); (try dsimp only); (try k_fold))
  k_with "w getAttr ref" => (k_here; (with_reducible show wpAny _ _ (getAttr (Value.ref (AD.x (TS.A _ _))) _ _) _ _ _); first | ((with_reducible (first | apply rs_number | apply rs_sort | apply rs_parent | apply rs_left | apply rs_top | apply rs_width | apply rs_height)); (next => k_extra "zP"); intro _ _) | ((with_reducible (apply rs_children)); (next => k_extra "zP"); intro _) | ((with_reducible (first | apply rs_buffer | apply rs_start | apply rs_point | apply rs_hscroll)); (next => k_extra "zP"); intro _ _ _) | ((with_reducible (apply rs_earlier)); (next => k_extra "zP"); intro _ _ _ _))
  k_with "w getAttr ref" => (k_here; (with_reducible show wpAny _ _ (getAttr (Value.ref (TS.x _)) _ _) _ _ _); first | ((with_reducible (apply rs_t_windows)); (next => k_extra "zQ"); intro _) | ((with_reducible (first | apply rs_t_root | apply rs_t_selected | apply rs_t_last | apply rs_t_least_width | apply rs_t_least_height)); (next => k_extra "zQ"); intro _ _) | ((with_reducible (apply rs_t_clock)); (next => k_extra "zQ"); intro _ _ _))
  k_with "w getMethod ref" => (k_here; (with_reducible show wpAny _ _ (getMethod (Value.ref (AD.x (TS.A _ _))) _ _) _ _ _); ((with_reducible (first | apply ms_size | apply ms_set_size | apply ms_place | apply ms_shown | apply ms_show)); (next => k_extra "zP")))
  k_with "w getMethod ref" => (k_here; (with_reducible show wpAny _ _ (getMethod (Value.ref (TS.x _)) _ _) _ _ _); ((with_reducible (first | apply ms_t_window | apply ms_t_leaf | apply ms_t_touch | apply ms_t_fresh | apply ms_t_select | apply ms_t_least_leaf)); (next => k_extra "zQ")))
  k_with "w k_all" => first | assumption | exact all_succ (by assumption) | exact all_succ2 (by assumption)
  k_with "w subscriptTail" => (k_here; (with_reducible apply it_tail); (next => k_asm); (next => k_extra "zT"); rotate_left; (next => with_unfolding_all rfl))
  k_with "w getItem ref int" => (k_here; (with_reducible apply it_get); (next => k_asm); (next => k_extra "zT"); (next => k_extra "zn"))
  k_with "w getMethod ref" => (k_here; (with_reducible apply it_getm); (next => k_asm); (next => k_extra "zT"))
  k_with "w call builtin:dict.get" => (k_here; (with_reducible apply it_get2); (next => k_asm); (next => k_extra "zT"); (next => k_extra "zn"))
  k_with "w setAttr ref" => (k_here; (with_reducible show wpAny _ _ (setAttr (Value.ref (AD.x (TS.A _ _))) _ (Value.int _ _)) _ _ _); ((with_reducible (first | apply ws_parent | apply ws_left | apply ws_top | apply ws_width | apply ws_height | apply ws_buffer | apply ws_start | apply ws_point | apply ws_hscroll | apply ws_use_time)); (next => k_extra "zP"); intro _ _ _ _ _ _; (try k_sweep)))
  k_with "w setAttr ref" => (k_here; (with_reducible show wpAny _ _ (setAttr (Value.ref (TS.x _)) _ (Value.int _ _)) _ _ _); ((with_reducible (first | apply ws_t_last | apply ws_t_clock | apply ws_t_root | apply ws_t_selected)); (next => k_extra "zX"); intro _ _ _ _ _ _; (try k_sweep)))
  k_with "w exec Raise some none" => (first | (exfalso; omega) | (k_here; (with_reducible show wpAny _ _ (exec (Stmt.Raise (some (Expr.Call (Expr.Name (Str.ofString "LispSignal") _) _ _ _)) none _) _) _ _ _); k_dflt (refine raise_K rfl ?_)))
  k_with "w call ref" => (k_here; k_dflt (refine exc_call (by k_asm) (by k_asm) (by k_asm) ?_); intro _ _ _ _ _ _; refine wpAny_call ?_; k_dflt ktr_enter)
  k_with "w setAttr ref" => (k_here; (with_reducible show wpAny _ _ (setAttr (Value.ref _) (Str.ofString "symbol") _) _ _ _); k_dflt (refine exc_store0 (by k_asm) (by k_asm) (by k_asm) (by assumption) (by exact (sig_facts _).2.2.2.1) (by exact lk_exc _ (.inl rfl)) ?_); intro _ _ _ _ _ _ _ _ _)
  k_with "w setAttr ref" => (k_here; (with_reducible show wpAny _ _ (setAttr (Value.ref _) (Str.ofString "data") _) _ _ _); k_dflt (refine exc_store1 (by k_asm) (by k_asm) (by k_asm) (by assumption) (by assumption) (by assumption) (by assumption) (by exact (sig_facts _).2.2.2.2.1) (by exact lk_exc _ (.inr rfl)) ?_ (by exact Within.cons _ _ Within.nil) (by (rw [sizeLine_eq]; decide))); intro _ _ _ _ _ _)
  k_with "w RaiseK" => (k_here; k_dflt (refine raiseK_intro (by k_asm) (by k_asm) (by k_asm) (by k_mem) ?_))
  k_with "w And" => ((with_reducible show Value.none = Value.none ∧ _); refine ⟨rfl, ?_⟩)
  k_with "zh" => first | exact rfl | assumption
  k_with "zp" => first | k_extra "zT" | exact trivial
  trivial
theorem law_draw_ok {w : World} {mean : ExcName → Option Value} {mg mb : Str → Option Value} (da dl : Addr) (k : Int) (t : Tok) (z : Nat) (vs : List Value) (ns : List Int) (z2 : Nat) (hi : IntsAre vs ns) (hns : ns.length ≤ 63) (h0 : 0 ≤ k) (hk : k ≤ 900) (hne : dl ≠ da) (many : Int) (tm : Tok) (hm : 1 ≤ many) (hm2 : many ≤ 1000) :
    CallOk w mean mg mb (.ref 353) [.ref da, .int many tm] 10 300 (fun news => (da, listOf #[.ref dl, .int k t] z) ∈ news ∧ (dl, listOf vs.toArray z2) ∈ news) (fun news news' v => ∃ t' tv r z', news' = (da, listOf #[.ref dl, .int (k + 1) t'] z') :: off da news ∧ v = .int r tv ∧ 0 ≤ r ∧ r < many) := by
  unfold CallOk
  k_fill
  intro dp un gd cn cs a ccd cl outer A₀ base h₀ L m news s Q E B F X N Tp hk hT hd hu hret
  refine wpAny_call ?_
  k_dflt ktr_enter
  k_with "subscriptTail Name Constant ref int" => (first | ((with_reducible show wpAny _ _ (subscriptTail _ _ _ (Value.int 0 _)) _ _ _); k_dflt (refine' deck_sub0 (D := da) ?wN ?wm ?_); (case wN => k_asm); (case wm => first | exact hda | exact .head _)) | ((with_reducible show wpAny _ _ (subscriptTail _ _ _ (Value.int 1 _)) _ _ _); k_dflt (refine' deck_sub1 (D := da) ?wN ?wm ?_); (case wN => k_asm); (case wm => first | exact hda | exact .head _)))
  k_with "setItem ref int int" => (k_dflt (refine' deck_set ?wF ?wN ?wm ?_); (case wF => k_asm); (case wN => k_asm); (case wm => exact hda); (intro h9 F9 N9))
  k_with "subscriptTail Subscript BinOp ref int" => (k_dflt (refine' ksa_sub (D := dl) ?wN ?wm hi ?wh ?wi ?wf ?_); (case wN => k_asm); (case wm => exact .tail _ (mem_off hdl hne)); (case wh => omega); (case wi => omega); (case wf => omega); (intro t9))
  obtain ⟨hda, hdl⟩ := hT
  have hdl9 : (dl, listOf vs.toArray z2) ∈ off da news := mem_off hdl hne
  have hlv := hi.length
  have hkk : (k + 1) * (k + 1) ≤ 1000000 := Int.le_trans (Int.mul_le_mul (by omega : k + 1 ≤ 1000) (by omega : k + 1 ≤ 1000) (by omega) (by omega)) (by decide)
  have hk0 : 0 ≤ (k + 1) * (k + 1) := Int.mul_nonneg (by omega) (by omega)
  k_steps
  all_goals exact hret _ _ _ _ (by assumption) (by assumption) ⟨_, _, _, _, rfl, rfl, Int.fmod_nonneg_of_pos _ (by omega), Int.fmod_lt_of_pos _ (by omega)⟩

theorem TreeIn.deck {w : World} {l : Led} {S : TS} {da : Addr} {o : Obj} (H : TreeIn w l S) (hm : (da, o) ∈ S.ex) (o' : Obj) : TreeIn w ((da, o') :: off da l) { S with ex := (da, o') :: off da S.ex } :=
  (H.without hm).keep o' off_ne
end
section
def newTree (w : World) (tw : Addr) (b2 : Int) (k0 k1 k2 k3 k4 k5 k6 t1 t2 t3 t4 t5 t6 : Tok) : List DictEntry :=
  [⟨PyData.keyHash w.params (Str.ofString "windows"), .str (Str.ofString "windows") k0, .ref tw⟩,
   ⟨PyData.keyHash w.params (Str.ofString "last"), .str (Str.ofString "last") k1, .int 1 t1⟩,
   ⟨PyData.keyHash w.params (Str.ofString "clock"), .str (Str.ofString "clock") k2, .int b2 t2⟩,
   ⟨PyData.keyHash w.params (Str.ofString "least_width"), .str (Str.ofString "least_width") k3, .int 3 t3⟩,
   ⟨PyData.keyHash w.params (Str.ofString "least_height"), .str (Str.ofString "least_height") k4, .int 2 t4⟩,
   ⟨PyData.keyHash w.params (Str.ofString "root"), .str (Str.ofString "root") k5, .int 1 t5⟩,
   ⟨PyData.keyHash w.params (Str.ofString "selected"), .str (Str.ofString "selected") k6, .int 1 t6⟩]
theorem neA {a b : Addr} (h : @LT.lt Nat _ a b) : a ≠ b := Nat.ne_of_lt h
def S00 (tx td tw wx wd c : Addr) (wide high : Int) (news : Led) : TS := ⟨tx, td, tw, 1, 1, 1, [1], fun _ => ⟨wx, wd⟩, fun _ => ⟨c, 0, 0, 0, 0, wide, high, []⟩, news⟩
theorem newTree_is (w : World) (tx td tw wx wd c : Addr) (wide high : Int) (news : Led) (b2 : Int) (k0 k1 k2 k3 k4 k5 k6 t1 t2 t3 t4 t5 t6 : Tok) (z : Nat) :
    ∃ j : Jk, j.n = z ∧ treeD w.params (S00 tx td tw wx wd c wide high news) j = newTree w tw b2 k0 k1 k2 k3 k4 k5 k6 t1 t2 t3 t4 t5 t6 :=
  ⟨⟨fun q => match q with | 0 => k0 | 1 => k1 | 2 => k2 | 3 => k3 | 4 => k4 | 5 => k5 | _ => k6, fun q => match q with | 1 => t1 | 2 => t2 | 3 => t3 | 4 => t4 | 5 => t5 | _ => t6, fun _ => b2, tx, tx, z⟩, rfl, rfl⟩
theorem tree_make {w : World} {news l : Led} {tx td tw wx wd c e lt : Addr} {wide high b8 b9 b10 b11 b13 b2 : Int} {u0 u1 u2 u3 u4 u5 u6 u7 u8 u9 u10 u11 u12 u13 u14 u15 v0 v1 v2 v4 v5 v6 v7 v8 v9 v10 v11 v13 k0 k1 k2 k3 k4 k5 k6 t1 t2 t3 t4 t5 t6 : Tok} {wo : Obj} {zc ze z z2 : Nat}
    (hx : (wx, instObj 93 wd) ∈ l) (hd : (wd, dictOf (newWin w 1 0 0 0 0 wide high b8 b9 b10 b11 b13 c e lt u0 u1 u2 u3 u4 u5 u6 u7 u8 u9 u10 u11 u12 u13 u14 u15 v0 v1 v2 v4 v5 v6 v7 v8 v9 v10 v11 v13) z) ∈ l) (hc : (c, listOf #[] zc) ∈ l) (he : (e, listOf #[] ze) ∈ l)
    (ht : (tx, instObj 164 td) ∈ l) (htd : (td, dictOf (newTree w tw b2 k0 k1 k2 k3 k4 k5 k6 t1 t2 t3 t4 t5 t6) z2) ∈ l) (htw : (tw, wo) ∈ l) (hwo : wo.IsDictOf (ik w) [(1, .ref wx)]) (lo : (tw == sysModules) = false)
    (hn : ∀ p ∈ news, p ∈ l) (l1 : td < tx) (l2 : tx < tw) (l3 : tw < wd) (l4 : wd < wx) (l5 : wx < c) (l6 : c < e) (hlt : ∀ p ∈ news, p.1 < td) : TreeIn w l (S00 tx td tw wx wd c wide high news) := by
  obtain ⟨j, rfl, rfl, hj⟩ := newWin_is w 1 0 0 0 0 wide high b8 b9 b10 b11 b13 c e lt u0 u1 u2 u3 u4 u5 u6 u7 u8 u9 u10 u11 u12 u13 u14 u15 v0 v1 v2 v4 v5 v6 v7 v8 v9 v10 v11 v13 [] z
  obtain ⟨jt, rfl, hjt⟩ := newTree_is w tx td tw wx wd c wide high news b2 k0 k1 k2 k3 k4 k5 k6 t1 t2 t3 t4 t5 t6 z2
  rw [← hj] at hd
  rw [← hjt] at htd
  have a0 : @LT.lt Nat _ td tx := l1
  have a1 : @LT.lt Nat _ tx tw := l2
  have a2 : @LT.lt Nat _ tw wd := l3
  have a3 : @LT.lt Nat _ wd wx := l4
  have a4 : @LT.lt Nat _ wx c := l5
  have a5 : @LT.lt Nat _ c j.e := l6
  have n_0_1 : td ≠ tx := neA (by lia)
  have n_0_2 : td ≠ tw := neA (by lia)
  have n_0_3 : td ≠ wd := neA (by lia)
  have n_0_4 : td ≠ wx := neA (by lia)
  have n_0_5 : td ≠ c := neA (by lia)
  have n_0_6 : td ≠ j.e := neA (by lia)
  have n_1_2 : tx ≠ tw := neA (by lia)
  have n_1_3 : tx ≠ wd := neA (by lia)
  have n_1_4 : tx ≠ wx := neA (by lia)
  have n_1_5 : tx ≠ c := neA (by lia)
  have n_1_6 : tx ≠ j.e := neA (by lia)
  have n_2_3 : tw ≠ wd := neA (by lia)
  have n_2_4 : tw ≠ wx := neA (by lia)
  have n_2_5 : tw ≠ c := neA (by lia)
  have n_2_6 : tw ≠ j.e := neA (by lia)
  have n_3_4 : wd ≠ wx := neA (by lia)
  have n_3_5 : wd ≠ c := neA (by lia)
  have n_3_6 : wd ≠ j.e := neA (by lia)
  have n_4_5 : wx ≠ c := neA (by lia)
  have n_4_6 : wx ≠ j.e := neA (by lia)
  have n_5_6 : c ≠ j.e := neA (by lia)
  refine ⟨fun a => if a = tx then (0, 0) else if a = td then (1, 0) else if a = tw then (2, 0) else if a = wx then (3, 1) else if a = wd then (4, 1) else if a = c then (5, 1) else if a = j.e then (6, 1) else (7, 0),
    ht, ⟨jt, htd⟩, ⟨wo, _, htw, hwo, Nat.le_refl _, fun n h => ?_⟩, lo, fun n h => hx, fun n h => ⟨j, ?_, ⟨_, he⟩, ?_⟩, fun n h => ⟨[], _, hc, .nil⟩, hn, ⟨?_, ?_, ?_⟩, fun n h => ⟨?_, ?_, ?_⟩, fun p h => ?_, by show (1 : Nat) ≤ 1000; decide⟩
  · rw [List.mem_singleton.mp h]; rfl
  · rw [List.mem_singleton.mp h]; exact hd
  · rw [List.mem_singleton.mp h]; exact (if_neg (Ne.symm n_1_6)).trans <| (if_neg (Ne.symm n_0_6)).trans <| (if_neg (Ne.symm n_2_6)).trans <| (if_neg (Ne.symm n_4_6)).trans <| (if_neg (Ne.symm n_3_6)).trans <| (if_neg (Ne.symm n_5_6)).trans <| if_pos rfl
  · exact if_pos rfl
  · exact (if_neg n_0_1).trans <| if_pos rfl
  · exact (if_neg (Ne.symm n_1_2)).trans <| (if_neg (Ne.symm n_0_2)).trans <| if_pos rfl
  · rw [List.mem_singleton.mp h]; exact (if_neg (Ne.symm n_1_4)).trans <| (if_neg (Ne.symm n_0_4)).trans <| (if_neg (Ne.symm n_2_4)).trans <| if_pos rfl
  · rw [List.mem_singleton.mp h]; exact (if_neg (Ne.symm n_1_3)).trans <| (if_neg (Ne.symm n_0_3)).trans <| (if_neg (Ne.symm n_2_3)).trans <| (if_neg n_3_4).trans <| if_pos rfl
  · rw [List.mem_singleton.mp h]; exact (if_neg (Ne.symm n_1_5)).trans <| (if_neg (Ne.symm n_0_5)).trans <| (if_neg (Ne.symm n_2_5)).trans <| (if_neg (Ne.symm n_4_5)).trans <| (if_neg (Ne.symm n_3_5)).trans <| if_pos rfl
  · have hp := hlt p h
    have b0 : @LT.lt Nat _ p.1 td := hp
    have m0 : p.1 ≠ td := neA (by lia)
    have m1 : p.1 ≠ tx := neA (by lia)
    have m2 : p.1 ≠ tw := neA (by lia)
    have m3 : p.1 ≠ wd := neA (by lia)
    have m4 : p.1 ≠ wx := neA (by lia)
    have m5 : p.1 ≠ c := neA (by lia)
    have m6 : p.1 ≠ j.e := neA (by lia)
    rw [if_neg m1, if_neg m0, if_neg m2, if_neg m4, if_neg m3, if_neg m5, if_neg m6]
theorem full_start {tx td tw wx wd c : Addr} {wide high : Int} {news : Led} (h1 : 1 ≤ wide) (h2 : 1 ≤ high) : Full (S00 tx td tw wx wd c wide high news) 1 .nil wide high :=
  ⟨⟨⟨rfl, by show (0 : Int) ≠ 3; decide, ⟨rfl, .inl ⟨rfl, rfl⟩, h1, h2⟩, trivial, trivial⟩, by decide, fun m h => h, rfl, fun m h => by rw [List.mem_singleton.mp h]; exact ⟨Int.le_refl _, Int.le_refl _⟩, by show (0 : Int) ≤ 1; decide⟩, ⟨rfl, trivial⟩, rfl, rfl⟩
theorem tree_post {w : World} {news l : Led} {tx td tw wx wd c e lt : Addr} {wide high b8 b9 b10 b11 b13 b2 : Int} {u0 u1 u2 u3 u4 u5 u6 u7 u8 u9 u10 u11 u12 u13 u14 u15 v0 v1 v2 v4 v5 v6 v7 v8 v9 v10 v11 v13 k0 k1 k2 k3 k4 k5 k6 t1 t2 t3 t4 t5 t6 : Tok} {wo : Obj} {zc ze z z2 : Nat} (g1 : 1 ≤ wide) (g2 : 1 ≤ high)
    (hx : (wx, instObj 93 wd) ∈ l) (hd : (wd, dictOf (newWin w 1 0 0 0 0 wide high b8 b9 b10 b11 b13 c e lt u0 u1 u2 u3 u4 u5 u6 u7 u8 u9 u10 u11 u12 u13 u14 u15 v0 v1 v2 v4 v5 v6 v7 v8 v9 v10 v11 v13) z) ∈ l) (hc : (c, listOf #[] zc) ∈ l) (he : (e, listOf #[] ze) ∈ l)
    (ht : (tx, instObj 164 td) ∈ l) (htd : (td, dictOf (newTree w tw b2 k0 k1 k2 k3 k4 k5 k6 t1 t2 t3 t4 t5 t6) z2) ∈ l) (htw : (tw, wo) ∈ l) (hwo : wo.IsDictOf (ik w) [(1, .ref wx)]) (lo : (tw == sysModules) = false)
    (hn : ∀ p ∈ news, p ∈ l) (l1 : td < tx) (l2 : tx < tw) (l3 : tw < wd) (l4 : wd < wx) (l5 : wx < c) (l6 : c < e) (hlt : ∀ p ∈ news, p.1 < td) :
    ∃ S' : TS, S'.ex = news ∧ S'.dom = [1] ∧ Full S' 1 .nil wide high ∧ TreeIn w l S' ∧ Value.ref tx = .ref S'.x :=
  ⟨S00 tx td tw wx wd c wide high news, rfl, rfl, full_start g1 g2, tree_make hx hd hc he ht htd htw hwo lo hn l1 l2 l3 l4 l5 l6 hlt, rfl⟩
end
section
theorem fresh_M18 : True := by
  w_top off
  k_with_none
  k_with "w k_mem" => (with_unfolding_all refine memIn ?_; ktr_member)
  k_with "w units_room" => ktr_units
  k_with "w k_room" => ktr_room
  k_with "zT" => first | assumption | ((refine TreeIn.mono (by assumption) ?_); repeat (first | exact sub_nil | refine sub_tail ?_))
  k_with "zn" => first | assumption | exact .head _ | exact .tail _ (by assumption)
  k_with "zA" => first | k_extra "zx" | exact upd_ne _ _ (by first | assumption | exact Ne.symm (by assumption))
  k_with "zx" => first | with_reducible rfl | assumption
  k_with "zP" => exact ⟨by k_asm, by k_asm, by k_asm, by k_extra "zT", by k_extra "zn", by k_extra "zA"⟩
  k_with "zQ" => exact ⟨by k_asm, by k_asm, by k_asm, by k_extra "zT", by k_extra "zx", by k_extra "zx"⟩
  k_with "zX" => exact ⟨by k_asm, by k_asm, by k_asm, by k_extra "zT", by k_extra "zx"⟩
  k_with "zC" => exact ⟨by k_asm, by k_asm, by k_asm, by k_asm, by k_asm⟩
  k_with "w ktr_room" => first | exact room1 (by assumption) rfl | exact room0 (by assumption) rfl | exact room2 (by assumption) rfl | ((simp +zetaDelta only [depth_under_make, depth_under_kw, depth_in1, depth_deeper, depth_caller, recursionLimit] at *); omega)
  k_with "w ktr_units" => first | exact room0 (by assumption) rfl | exact room1 (by assumption) rfl | (have zcL := cLine_is; (simp +zetaDelta only [units_in1, units_deeper, Around.mark_units, units_caller] at *); omega)
  k_with "zL" => ((try simp only [List.length_reverse, List.length_map, List.length_append, List.length_cons, List.length_nil]); omega)
  k_with "w call builtin:list.pop" => (k_here; k_dflt (refine pop_last (by k_asm) (by k_asm) (by k_upd) (by first | omega | assumption) ?_); intro _ _ _; (try k_sweep))
  k_with "w call builtin:list.extend" => (k_here; (with_reducible show wpAny _ _ (call (Value.builtin _) [Value.ref _, Value.ref _]) _ _ _); k_dflt (refine ext_ints (by k_asm) (by k_asm) (by k_mem) (by k_updF) (by l_ints) (by k_extra "zL") ?_); intro _ _ _ zN; (try dsimp only at zN); (try k_sweep))
  k_with "w setAttr ref" => (k_here; k_dflt (refine set_s (by k_asm) (by k_asm) (by k_asm) (by k_inst) (by rfl) (by k_is) (by k_is) (by k_is) (by k_is) (by k_get) (by k_put) (by k_updF) (by exact Nat.le_of_ble_eq_true rfl) ?_; k_whole); intro _ _ _ _ _; (try k_sweep))
  k_with "w call builtin:list.append" => (k_here; (with_reducible show wpAny _ _ (call (Value.builtin _) [Value.ref _, _]) _ _ _); k_dflt (refine app_any (by k_asm) (by k_asm) (by k_upd) (by first | omega | k_extra "zL") ?_); intro _ _ zN; (try dsimp only at zN); (try k_sweep))
  k_with "w execs cons" => (k_here; first | (refine execs_shut (s := ‹Shared›) ?_; intro _ _ _) | (refine execs_lit ?_; intro _ _ _) | (refine execs_shut0 ?_; intro _ _))
  k_with "w SPost" => first | refine spost_next (by assumption) ?_ | refine spost_ret (by assumption) ?_ | refine spost_cont (by assumption) ?_ | refine spost_brk (by assumption) ?_
  k_with "w CPost" => (refine cpost_of (by assumption) ?_)
  k_with "w WPost" => (dsimp only [WPost])
  k_with "w ksw_same" => (intro zz z3; (simp only [List.contains_cons, List.contains_nil, Bool.or_false, Bool.or_eq_false_iff, beq_eq_false_iff_ne, ne_eq] at z3); first | (simp [z3]; done) | (simp +zetaDelta [z3]; done))
  k_with "w FPost" => (dsimp only [FPost])
  k_with "w execs nil" => with_reducible refine wpAny_execs_nil ?_
  k_with "w call builtin:len" => (k_here; (with_reducible show wpAny _ _ (call (Value.builtin "len") [Value.ref _]) _ _ _); (refine len_ints (by k_asm) (by k_dflt k_mem) (by with_reducible assumption) (by k_extra "zL") ?_); (try simp only [List.length_map]))
  k_with "w eval Dict" => (k_here; k_dflt (refine kdn_str (by rfl) (by k_asm) (by first | k_asm | exact News.nil) (by exact Top.nolimit (by k_asm)) (by rfl) (by rfl) (by exact List.cons_ne_nil _ _) (by exact Nat.le_of_ble_eq_true rfl) ?_); intro zd zh zo zF zN zl zlo zhd; (try k_lt zl))
  k_with "w eval Constant int" => (with_reducible refine const_int_s ?_; intro _)
  k_with "w eval Constant str" => (with_reducible refine const_str_s ?_; intro _)
  k_with "w binaryOp Add int int" => (with_reducible refine add_int_s ?_; intro _)
  k_with "w binaryOp Sub int int" => (with_reducible refine sub_int_s ?_; intro _)
  k_with "w storeName" => (k_here; k_dflt (refine store_s (by k_asm) (by k_asm) ?_ rfl rfl; k_whole); intro _ _ _ _ _; (try k_sweep))
  k_with "w newTuple" => (k_here; kup_bare; k_dflt (refine tuple_s (by k_asm) (by k_asm) ?_ (by kmk_size)); intro _ _ _ _ zl; (try k_lt zl); (try k_sweep))
  k_with "w ktr_enter" => first | (refine enter_s (by k_extra "zC") rfl rfl (by first | assumption | exact rfl) (by k_is) (by k_is) (by ktr_room) (by first | exact BindsTo.of_eq rfl | exact binds_K (by k_in) rfl (by k_is) rfl rfl rfl) (by exact locs rfl) (by rfl) ?_ (by rfl) (by rfl) (by rfl) (by decide); k_whole; intro _ _ _ _ _ _ _ _ _ _ _ _; (try dsimp only); (try k_fold)) | (refine enterC_s (by k_extra "zC") rfl rfl (by first | assumption | exact rfl) (by k_is) (by k_is) (by ktr_room) (by first | exact BindsTo.of_eq rfl | exact binds_K (by k_in) rfl (by k_is) rfl rfl rfl) (by rfl) (by decide +kernel) ?_ (by rfl) (by rfl) (by rfl); k_whole; intro _ _ _ _ _ _ _ _ _ zN zY _ _ _ zl; (try k_lt zl); k_cells zY; (try simp only [List.cons_append, List.nil_append] at zN); (try dsimp only); (try k_fold))
  k_with "w getAttr ref" => (k_here; (with_reducible show wpAny _ _ (getAttr (Value.ref (AD.x (TS.A _ _))) _ _) _ _ _); first | ((with_reducible (first | apply rs_number | apply rs_sort | apply rs_parent | apply rs_left | apply rs_top | apply rs_width | apply rs_height)); (next => k_extra "zP"); intro _ _) | ((with_reducible (apply rs_children)); (next => k_extra "zP"); intro _) | ((with_reducible (first | apply rs_buffer | apply rs_start | apply rs_point | apply rs_hscroll)); (next => k_extra "zP"); intro _ _ _) | ((with_reducible (apply rs_earlier)); (next => k_extra "zP"); intro _ _ _ _))
  k_with "w getAttr ref" => (k_here; (with_reducible show wpAny _ _ (getAttr (Value.ref (TS.x _)) _ _) _ _ _); first | ((with_reducible (apply rs_t_windows)); (next => k_extra "zQ"); intro _) | ((with_reducible (first | apply rs_t_root | apply rs_t_selected | apply rs_t_last | apply rs_t_least_width | apply rs_t_least_height)); (next => k_extra "zQ"); intro _ _) | ((with_reducible (apply rs_t_clock)); (next => k_extra "zQ"); intro _ _ _))
  k_with "w getMethod ref" => (k_here; (with_reducible show wpAny _ _ (getMethod (Value.ref (AD.x (TS.A _ _))) _ _) _ _ _); ((with_reducible (first | apply ms_size | apply ms_set_size | apply ms_place | apply ms_shown | apply ms_show)); (next => k_extra "zP")))
  k_with "w getMethod ref" => (k_here; (with_reducible show wpAny _ _ (getMethod (Value.ref (TS.x _)) _ _) _ _ _); ((with_reducible (first | apply ms_t_window | apply ms_t_leaf | apply ms_t_touch | apply ms_t_fresh | apply ms_t_select | apply ms_t_least_leaf)); (next => k_extra "zQ")))
  k_with "w k_all" => first | assumption | exact all_succ (by assumption) | exact all_succ2 (by assumption)
  k_with "w subscriptTail" => (k_here; (with_reducible apply it_tail); (next => k_asm); (next => k_extra "zT"); rotate_left; (next => with_unfolding_all rfl))
  k_with "w getItem ref int" => (k_here; (with_reducible apply it_get); (next => k_asm); (next => k_extra "zT"); (next => k_extra "zn"))
  k_with "w getMethod ref" => (k_here; (with_reducible apply it_getm); (next => k_asm); (next => k_extra "zT"))
  k_with "w call builtin:dict.get" => (k_here; (with_reducible apply it_get2); (next => k_asm); (next => k_extra "zT"); (next => k_extra "zn"))
  k_with "w setAttr ref" => (k_here; (with_reducible show wpAny _ _ (setAttr (Value.ref (AD.x (TS.A _ _))) _ (Value.int _ _)) _ _ _); ((with_reducible (first | apply ws_parent | apply ws_left | apply ws_top | apply ws_width | apply ws_height | apply ws_buffer | apply ws_start | apply ws_point | apply ws_hscroll | apply ws_use_time)); (next => k_extra "zP"); intro _ _ _ _ _ _; (try k_sweep)))
  k_with "w setAttr ref" => (k_here; (with_reducible show wpAny _ _ (setAttr (Value.ref (TS.x _)) _ (Value.int _ _)) _ _ _); ((with_reducible (first | apply ws_t_last | apply ws_t_clock | apply ws_t_root | apply ws_t_selected)); (next => k_extra "zX"); intro _ _ _ _ _ _; (try k_sweep)))
  k_with "w exec Raise some none" => (first | (exfalso; omega) | (k_here; (with_reducible show wpAny _ _ (exec (Stmt.Raise (some (Expr.Call (Expr.Name (Str.ofString "LispSignal") _) _ _ _)) none _) _) _ _ _); k_dflt (refine raise_K rfl ?_)))
  k_with "w call ref" => (k_here; k_dflt (refine exc_call (by k_asm) (by k_asm) (by k_asm) ?_); intro _ _ _ _ _ _; refine wpAny_call ?_; k_dflt ktr_enter)
  k_with "w setAttr ref" => (k_here; (with_reducible show wpAny _ _ (setAttr (Value.ref _) (Str.ofString "symbol") _) _ _ _); k_dflt (refine exc_store0 (by k_asm) (by k_asm) (by k_asm) (by assumption) (by exact (sig_facts _).2.2.2.1) (by exact lk_exc _ (.inl rfl)) ?_); intro _ _ _ _ _ _ _ _ _)
  k_with "w setAttr ref" => (k_here; (with_reducible show wpAny _ _ (setAttr (Value.ref _) (Str.ofString "data") _) _ _ _); k_dflt (refine exc_store1 (by k_asm) (by k_asm) (by k_asm) (by assumption) (by assumption) (by assumption) (by assumption) (by exact (sig_facts _).2.2.2.2.1) (by exact lk_exc _ (.inr rfl)) ?_ (by exact Within.cons _ _ Within.nil) (by (rw [sizeLine_eq]; decide))); intro _ _ _ _ _ _)
  k_with "w RaiseK" => (k_here; k_dflt (refine raiseK_intro (by k_asm) (by k_asm) (by k_asm) (by k_mem) ?_))
  k_with "w And" => ((with_reducible show Value.none = Value.none ∧ _); refine ⟨rfl, ?_⟩)
  k_with "zh" => first | exact rfl | assumption
  k_with "zp" => first | k_extra "zT" | exact trivial
  trivial
theorem tree_ok {w : World} {mean : ExcName → Option Value} {mg mb : Str → Option Value} (wide high : Int) (tw th t1 t3 t2 : Tok) (hw1 : 1 ≤ wide) (hh1 : 1 ≤ high) :
    CallOk w mean mg mb (.ref 164) [.int wide tw, .int high th, .int 1 t1, .int 3 t3, .int 2 t2] 40 1200 (fun _ => True) (fun news news' v => ∃ S', S'.ex = news ∧ S'.dom = [1] ∧ Full S' 1 .nil wide high ∧ TreeIn w news' S' ∧ v = .ref S'.x) := by
  unfold CallOk
  k_fill
  intro dp un gd cn cs a ccd cl outer A₀ base h₀ L m news s Q E B F X N Tp hk hT hd hu hret
  k_dflt (refine' call_cls ?k1 ?k2 ?k3 ?k4 ?k5 ?k6 ?_; (case k1 => k_asm); (case k2 => k_asm); (case k3 => k_asm); (case k4 => k_is); (case k5 => k_is); (case k6 => k_is); k_whole; intro x' d' h' F' N' l1 l2; (try k_lt l1); (try k_lt2 l2); (try k_sweep); ktr_enter)
  k_steps
  all_goals
    refine hret _ _ _ _ (by assumption) (by assumption) ?_
    k_dflt (refine' tree_post hw1 hh1 ?qx ?qd ?qc ?qe ?qt ?qs ?qw ?qo ?ql ?qn ?q1 ?q2 ?q3 ?q4 ?q5 ?q6 ?q7)
    case qx => exact .tail _ (.tail _ (.tail _ (.head _)))
    case qd => exact .tail _ (.tail _ (.tail _ (.tail _ (.head _))))
    case qc => exact .tail _ (.tail _ (.head _))
    case qe => exact .tail _ (.head _)
    case qt => exact .tail _ (.tail _ (.tail _ (.tail _ (.tail _ (.tail _ (.head _))))))
    case qs => exact .tail _ (.tail _ (.tail _ (.tail _ (.tail _ (.tail _ (.tail _ (.head _)))))))
    case qw => exact .tail _ (.tail _ (.tail _ (.tail _ (.tail _ (.head _)))))
    case qo => k_dflt assumption
    case ql => assumption
    case qn => exact fun p hp => .tail _ (.tail _ (.tail _ (.tail _ (.tail _ (.tail _ (.tail _ (.tail _ (hp))))))))
    all_goals first | assumption | (apply And.left; assumption)
end
section
/-- the leaves of the state -/
def Fo.lv (W : Int → WR) (r : Int) (f : Fo) : List Int := (Fo.cons r f .nil).leaves W
theorem leaves_sub (W : Int → WR) : ∀ f : Fo, (f.leaves W).Sublist f.all
  | .nil => .slnil
  | .cons n k s => by
    simp only [Fo.leaves, Fo.all]
    split
    · exact List.Sublist.cons_cons n ((leaves_sub W s).trans (List.sublist_append_right _ _))
    · exact List.Sublist.cons n ((leaves_sub W k).append (leaves_sub W s))
theorem along01 (s : Int) : alongI s = 0 ∨ alongI s = 1 := by unfold alongI; split <;> simp
theorem leaves_ne {W : Int → WR} : ∀ {n : Int} {k r : Fo} {par s : Int}, Good W par s (.cons n k r) → (Fo.cons n k r).leaves W ≠ []
  | n, .nil, r, par, s, ⟨a, b, c, d, e⟩ => by
    rcases c.sort with h | ⟨h, h1, h2⟩
    · simp [Fo.leaves, h.1]
    · exfalso
      simp only [Fo.nums, List.map_nil, List.sum_nil] at h1
      have w1 := c.wide
      have w2 := c.high
      unfold sizeI at h1
      split at h1 <;> lia
  | n, .cons m k2 r2, r, par, s, ⟨a, b, c, d, e⟩ => by
    have := leaves_ne d
    simp only [Fo.leaves] at this ⊢
    split
    · simp
    · intro h
      exact this (List.append_eq_nil_iff.mp h).1
def Ins (a x y len c col row : Int) : Prop := (a = 0 → x ≤ col ∧ col < x + len ∧ y ≤ row ∧ row < y + c) ∧ (a ≠ 0 → x ≤ col ∧ col < x + c ∧ y ≤ row ∧ row < y + len)
theorem len_nonneg {W : Int → WR} (a : Int) : ∀ {f : Fo} {par s : Int}, Good W par s f → 0 ≤ (f.nums.map fun m => sizeI a (W m)).sum
  | .nil, _, _, _ => by simp [Fo.nums]
  | .cons n k r, par, s, ⟨_, _, c, _, e⟩ => by
    have := len_nonneg a e
    have w1 := c.wide
    have w2 := c.high
    simp only [Fo.nums, List.map_cons, List.sum_cons]
    have : 0 ≤ sizeI a (W n) := by unfold sizeI; split <;> lia
    lia
theorem cells {W : Int → WR} {col row : Int} : ∀ {f : Fo} {par s x y c : Int}, Good W par s f → Placed W W s f x y → (∀ m ∈ f.nums, sizeI (1 - alongI s) (W m) = c) →
    (∀ n ∈ f.leaves W, covers W col row n = true → Ins (alongI s) x y (f.nums.map fun m => sizeI (alongI s) (W m)).sum c col row) ∧ ((f.leaves W).filter (covers W col row)).length ≤ 1
  | .nil, _, _, _, _, _, _, _, _ => by refine ⟨fun _ h => (nomatch h), ?_⟩; simp [Fo.leaves]
  | .cons n k r, par, s, x, y, c, ⟨g1, g2, g3, g4, g5⟩, ⟨p1, p2, p3⟩, hc => by
    have hl : (W n).left = x := congrArg WR.left p1
    have ht : (W n).top = y := congrArg WR.top p1
    have own : (∀ m ∈ (if (W n).sort = 0 then [n] else k.leaves W), covers W col row m = true → x ≤ col ∧ col < x + (W n).width ∧ y ≤ row ∧ row < y + (W n).height) ∧ ((if (W n).sort = 0 then [n] else k.leaves W).filter (covers W col row)).length ≤ 1 := by
      split
      · refine ⟨fun m hm h => ?_, ?_⟩
        · rw [List.mem_singleton.mp hm] at h
          simp only [covers, decide_eq_true_eq] at h
          rw [hl, ht] at h; exact h.imp id (fun h => h.imp id id)
        · exact List.length_filter_le _ _
      · rename_i hs
        rcases g3.sort with h | ⟨h, h1, h2⟩
        · exact absurd h.1 hs
        · obtain ⟨i1, i2⟩ := cells (col := col) (row := row) (c := sizeI (1 - alongI (W n).sort) (W n)) g4 p2 h2
          refine ⟨fun m hm hcv => ?_, i2⟩
          have := i1 m hm hcv
          rw [h1] at this
          unfold Ins at this
          rcases along01 (W n).sort with e | e <;> rw [e] at this <;> simp [sizeI] at this <;> lia
    obtain ⟨o1, o2⟩ := own
    have hn := hc n (.head _)
    obtain ⟨r1, r2⟩ := cells (col := col) (row := row) (c := c) g5 p3 (fun m hm => hc m (.tail _ hm))
    have nn := len_nonneg (alongI s) g5
    simp only [Fo.leaves, Fo.nums, List.map_cons, List.sum_cons, List.filter_append, List.length_append]
    refine ⟨fun m hm hcv => ?_, ?_⟩
    · rcases List.mem_append.mp hm with hm | hm
      · have := o1 m hm hcv
        unfold Ins
        rcases along01 s with e | e <;> rw [e] at hn nn ⊢ <;> simp [sizeI] at hn nn ⊢ <;> lia
      · have := r1 m hm hcv
        have w1 := g3.wide
        have w2 := g3.high
        unfold Ins nx ny at *
        rcases along01 s with e | e <;> rw [e] at hn nn this ⊢ <;> simp [sizeI] at hn nn this ⊢ <;> lia
    · by_cases hz : ∃ m ∈ r.leaves W, covers W col row m = true
      · obtain ⟨m, hm, hcv⟩ := hz
        have a1 := r1 m hm hcv
        have : (if (W n).sort = 0 then [n] else k.leaves W).filter (covers W col row) = [] := by
          rw [List.filter_eq_nil_iff]
          intro q hq hcq
          have a2 := o1 q hq hcq
          unfold Ins nx ny at a1
          rcases along01 s with e | e <;> rw [e] at hn nn a1 <;> simp [sizeI] at hn nn a1 <;> lia
        rw [this]; simpa using r2
      · have : (r.leaves W).filter (covers W col row) = [] := by
          rw [List.filter_eq_nil_iff]
          exact fun q hq hcq => hz ⟨q, hq, hcq⟩
        rw [this]; simpa using o2
theorem Full.one {S : TS} {r : Int} {k : Fo} {wide high : Int} (H : Full S r k wide high) (col row : Int) : ((Fo.lv S.W r k).filter (covers S.W col row)).length ≤ 1 :=
  (cells (c := (S.W r).width) H.tre.good (x := 0) (y := 0) ⟨H.pl.1, H.pl.2, trivial⟩ (fun m hm => by rw [List.mem_singleton.mp hm]; rfl)).2
theorem cell_same {W : Int → WR} {lv : List Int} {col row : Int} (h : (lv.filter (covers W col row)).length ≤ 1) : cellOne W lv col row = cellOf W lv col row := by
  unfold cellOf cellOne
  rw [← List.head?_filter]
  match hf : lv.filter (covers W col row), h with
  | [], _ => rfl
  | [a], _ => rfl
theorem cell_mem {W : Int → WR} {lv : List Int} {col row : Int} (h : cellOf W lv col row ≠ 0) : cellOf W lv col row ∈ lv := by
  unfold cellOf at h ⊢
  cases hf : lv.find? (covers W col row) with
  | none => rw [hf] at h; exact absurd rfl h
  | some a => exact List.mem_of_find?_eq_some hf
theorem Full.lv_nodup {S : TS} {r : Int} {k : Fo} {wide high : Int} (H : Full S r k wide high) : (Fo.lv S.W r k).Nodup := by
  have h := H.tre.nod
  rw [← H.tre.all] at h
  exact (leaves_sub S.W _).nodup h
theorem Full.lv_ne {S : TS} {r : Int} {k : Fo} {wide high : Int} (H : Full S r k wide high) : Fo.lv S.W r k ≠ [] := leaves_ne H.tre.good
theorem Full.lv_len {S : TS} {r : Int} {k : Fo} {wide high : Int} (H : Full S r k wide high) : (Fo.lv S.W r k).length ≤ k.size + 1 := by
  have := Fo.leaves_le S.W (.cons r k .nil)
  simp only [Fo.size] at this
  unfold Fo.lv
  lia
theorem Full.lv_all {S : TS} {r : Int} {k : Fo} {wide high : Int} (H : Full S r k wide high) : ∀ n ∈ Fo.lv S.W r k, n ∈ r :: k.all ∧ (S.W n).sort = 0 ∧ n ∈ S.dom ∧ n ≠ 0 := fun n hn => by
  have h := Fo.leaves_all _ _ n hn
  rw [H.tre.all] at h
  exact ⟨h, Fo.leaves_sort _ _ n hn, H.tre.dom n h, H.tre.ne0 n h⟩
theorem Full.isLv {S : TS} {r : Int} {k : Fo} {wide high : Int} (H : Full S r k wide high) (hz : k.size ≤ 900) : Lv S (Fo.lv S.W r k) :=
  ⟨r, k, H.tre.okOf, by rw [H.tre.all]; exact H.tre.dom, by simp only [Fo.size]; lia, H.tre.root.symm, rfl⟩
-- the ring
theorem fmod_pos (a : Int) {n : Nat} (h : 0 < n) : a.fmod n = a % (n : Int) := Int.fmod_eq_emod_of_nonneg a (by lia)
theorem ring_idx {lv : List Int} (hne : lv ≠ []) (i : Nat) (cnt : Int) : lv[(((i : Int) + cnt) % (lv.length : Int)).toNat]? = some (ringAt lv i cnt) ∧ (((i : Int) + cnt) % (lv.length : Int)).toNat < lv.length := by
  have hl : 0 < lv.length := List.length_pos_iff.mpr hne
  have h0 := Int.emod_nonneg ((i : Int) + cnt) (b := (lv.length : Int)) (by lia)
  have h1 := Int.emod_lt_of_pos ((i : Int) + cnt) (b := (lv.length : Int)) (by lia)
  have h2 : (((i : Int) + cnt) % (lv.length : Int)).toNat < lv.length := by lia
  refine ⟨?_, h2⟩
  unfold ringAt
  rw [fmod_pos _ hl]
  simp [h2]
theorem ring_mem {lv : List Int} (hne : lv ≠ []) (i : Nat) (cnt : Int) : ringAt lv i cnt ∈ lv := List.mem_of_getElem? (ring_idx hne i cnt).1
theorem ring_step {lv : List Int} (hne : lv ≠ []) (hnd : lv.Nodup) {i j : Nat} {c1 : Int} (c2 : Int) (hj : lv[j]? = some (ringAt lv i c1)) : ringAt lv j c2 = ringAt lv i (c1 + c2) := by
  have hl : 0 < lv.length := List.length_pos_iff.mpr hne
  obtain ⟨h1, h2⟩ := ring_idx hne i c1
  have e := idx_unique hnd hj h1
  have h0 := Int.emod_nonneg ((i : Int) + c1) (b := (lv.length : Int)) (by lia)
  have e2 : (j : Int) = ((i : Int) + c1) % (lv.length : Int) := by rw [e]; lia
  unfold ringAt
  rw [fmod_pos _ hl, fmod_pos _ hl, e2, Int.emod_add_emod, Int.add_assoc]
theorem ring_zero {lv : List Int} {i : Nat} {n : Int} (hi : lv[i]? = some n) : ringAt lv i 0 = n := by
  have hl := lt_of_get hi
  unfold ringAt
  rw [fmod_pos _ (by lia), Int.add_zero, Int.emod_eq_of_lt (by lia) (by lia)]
  simp only [Int.toNat_natCast]
  rw [List.getD_eq_getElem?_getD, hi]; rfl
theorem ring_len {lv : List Int} {i : Nat} {n : Int} (hi : lv[i]? = some n) : ringAt lv i lv.length = n := by
  have hl := lt_of_get hi
  rw [← ring_zero hi]
  unfold ringAt
  rw [fmod_pos _ (by lia), fmod_pos _ (by lia), Int.add_zero, Int.add_emod_right]
def ringL (lv : List Int) (i m : Nat) : List Int := (List.range m).map fun j : Nat => ringAt lv i (j : Int)
theorem ringL_succ (lv : List Int) (i m : Nat) : ringL lv i (m + 1) = ringL lv i m ++ [ringAt lv i (m : Int)] := by
  unfold ringL; rw [List.range_succ, List.map_append]; rfl
theorem ringL_len (lv : List Int) (i m : Nat) : (ringL lv i m).length = m := by unfold ringL; simp
theorem ring_perm {lv : List Int} {i : Nat} {n : Int} (hi : lv[i]? = some n) : (ringL lv i lv.length).Perm lv := by
  have hl := lt_of_get hi
  have e : ringL lv i lv.length = lv.drop i ++ lv.take i := by
    apply List.ext_getElem
    · rw [ringL_len]; simp; lia
    · intro j h1 h2
      rw [ringL_len] at h1
      have e1 : (ringL lv i lv.length)[j]'(by rw [ringL_len]; exact h1) = ringAt lv i (j : Int) := by simp [ringL]
      rw [e1]
      by_cases hji : j < lv.length - i
      · rw [List.getElem_append_left (by simp; lia), List.getElem_drop]
        unfold ringAt
        rw [fmod_pos _ (by lia), Int.emod_eq_of_lt (by lia) (by lia)]
        have : ((i : Int) + (j : Int)).toNat = i + j := by lia
        rw [this]; simp; rw [List.getElem?_eq_getElem (by lia)]; rfl
      · rw [List.getElem_append_right (by simp; lia)]
        simp only [List.getElem_take, List.length_drop]
        unfold ringAt
        have : ((i : Int) + (j : Int)) % (lv.length : Int) = (i : Int) + j - lv.length := by
          rw [← Int.sub_emod_right, Int.emod_eq_of_lt (by lia) (by lia)]
        rw [fmod_pos _ (by lia), this]
        have : ((i : Int) + (j : Int) - (lv.length : Int)).toNat = j - (lv.length - i) := by lia
        rw [this]; simp; rw [List.getElem?_eq_getElem (by lia)]; rfl
  rw [e]
  exact List.perm_append_comm.trans (by rw [List.take_append_drop])
theorem sorted_eq {a b : List Int} (p : a.Perm b) (h1 : a.Pairwise (· ≤ ·)) (h2 : b.Pairwise (· ≤ ·)) : a = b :=
  p.eq_of_pairwise (fun _ _ _ _ h h' => Int.le_antisymm h h') h1 h2
end
section
structure DeckIn (l : Led) (da dl : Addr) (k : Int) : Prop where
  at_ : ∃ t z vs ns z2, (da, listOf #[.ref dl, .int k t] z) ∈ l ∧ (dl, listOf vs.toArray z2) ∈ l ∧ IntsAre vs ns ∧ ns.length ≤ 63
  ne : dl ≠ da
theorem DeckIn.mono {l l' : Led} {da dl : Addr} {k : Int} (H : DeckIn l da dl k) (h : ∀ p ∈ l, p ∈ l') : DeckIn l' da dl k :=
  let ⟨t, z, vs, ns, z2, a, b, c⟩ := H.at_; ⟨⟨t, z, vs, ns, z2, h _ a, h _ b, c⟩, H.ne⟩
theorem DeckIn.turn {l : Led} {da dl : Addr} {k k' : Int} {t' : Tok} {z' : Nat} (H : DeckIn l da dl k) : DeckIn ((da, listOf #[.ref dl, .int k' t'] z') :: off da l) da dl k' :=
  let ⟨t, z, vs, ns, z2, a, b, c⟩ := H.at_; ⟨⟨t', z', vs, ns, z2, .head _, .tail _ (mem_off b H.ne), c⟩, H.ne⟩
theorem DeckIn.past {l : Led} {da dl : Addr} {k : Int} (H : DeckIn l da dl k) {c : Addr} (o : Obj) (h1 : da ≠ c) (h2 : dl ≠ c) : DeckIn ((c, o) :: off c l) da dl k :=
  let ⟨t, z, vs, ns, z2, a, b, d⟩ := H.at_; ⟨⟨t, z, vs, ns, z2, .tail _ (mem_off a h1), .tail _ (mem_off b h2), d⟩, H.ne⟩
theorem turn2 {h₀ h : Heap} {L D : Addr} {o : Obj} {l : Led} (N : News h₀ L h l) (hm : (D, o) ∈ l) : News h₀ L h ((D, o) :: off D l) ∧ ∀ p ∈ off D l, p.1 ≠ D := ⟨news_turn N hm, off_ne⟩
theorem deck_open {h₀ h : Heap} {L da dl : Addr} {t : Tok} {vs : List Value} {ns : List Int} {z z2 : Nat} {rest : Led} (N : News h₀ L h ((da, listOf #[.ref dl, .int 0 t] z) :: (dl, listOf vs.toArray z2) :: rest)) (hi : IntsAre vs ns) (hns : ns.length ≤ 63) (hne : dl ≠ da) :
    ∃ news, News h₀ L h news ∧ DeckIn news da dl 0 ∧ ∀ p ∈ rest, p ∈ news :=
  ⟨_, N, ⟨⟨t, z, vs, ns, z2, .head _, .tail _ (.head _), hi, hns⟩, hne⟩, fun p hp => .tail _ (.tail _ hp)⟩

/-- the law's own text, met by its place in the row -/
def lawOf : Stmt → List Stmt × Scope
  | .FunctionDef _ _ body _ _ _ sc _ _ _ => (body, sc)
  | _ => ([], { kind := .function, names := [], isGenerator := false, isCoroutine := false, more := [] })
def lawPair : List Stmt × Scope := lawOf (PySem.Challenge.pw_np0059_01.main.body.getD 44 (.Pass ⟨0, 0, 0, 0⟩))
def lawSc : Scope := lawPair.2
def lawB (i : Nat) : List Stmt := lawPair.1.drop i
def lawS (i : Nat) : Stmt := lawPair.1.getD i (.Pass ⟨0, 0, 0, 0⟩)
/-- the law's state between two statements: at most n draws, at most z windows beyond the root -/
structure LS (w : World) (L : Addr) (wide high : Int) (n z : Nat) (news : Led) (S : TS) (da dl : Addr) (r : Int) (f : Fo) : Prop where
  tree : TreeIn w news S
  deck : ∃ k, DeckIn S.ex da dl k ∧ 0 ≤ k ∧ k ≤ n
  cell : ∃ o, (L + 1, o) ∈ S.ex ∧ o.data = .cell (some (.ref S.x))
  full : Full S r f wide high
  size : f.size ≤ z
  doms : S.dom.length ≤ z + 1
  ne : da ≠ L + 1
/-- two states that part in the other live objects alone -/
structure Same (S S1 : TS) : Prop where
  x : S1.x = S.x
  d : S1.d = S.d
  root : S1.root = S.root
  sel : S1.selected = S.selected
  dom : S1.dom = S.dom
  W : S1.W = S.W
theorem Full.ex {S : TS} {r : Int} {f : Fo} {wide high : Int} (H : Full S r f wide high) (e : Led) : Full { S with ex := e } r f wide high :=
  ⟨⟨H.tre.good, H.tre.nod, H.tre.dom, H.tre.root, H.tre.pos, H.tre.last⟩, H.pl, H.wide, H.high⟩
theorem Full.sel {S : TS} {r : Int} {f : Fo} {wide high : Int} (H : Full S r f wide high) (n : Int) : Full { S with selected := n } r f wide high :=
  ⟨⟨H.tre.good, H.tre.nod, H.tre.dom, H.tre.root, H.tre.pos, H.tre.last⟩, H.pl, H.wide, H.high⟩
/-- as Same, the selected window let go -/
structure Same1 (S S1 : TS) : Prop where
  x : S1.x = S.x
  d : S1.d = S.d
  root : S1.root = S.root
  dom : S1.dom = S.dom
  W : S1.W = S.W
theorem Same.one {S S1 : TS} (h : Same S S1) : Same1 S S1 := ⟨h.x, h.d, h.root, h.dom, h.W⟩
theorem Same1.trans {S S1 S2 : TS} (h : Same1 S S1) (h2 : Same1 S1 S2) : Same1 S S2 := ⟨h2.x.trans h.x, h2.d.trans h.d, h2.root.trans h.root, h2.dom.trans h.dom, h2.W.trans h.W⟩
theorem ls_start {w : World} {L : Addr} {wide high : Int} {n : Nat} {k : Int} {news : Led} {S : TS} {da dl : Addr} {o o' : Obj} (hT : TreeIn w news S) (cm : (L + 1, o) ∈ S.ex) (D : DeckIn S.ex da dl k) (h0 : 0 ≤ k) (hk : k ≤ n) (h1 : da ≠ L + 1) (h2 : dl ≠ L + 1)
    (FU : Full S 1 .nil wide high) (d0 : S.dom = [1]) (dc : o'.data = .cell (some (.ref S.x))) : ∃ S1, LS w L wide high n 0 ((L + 1, o') :: off (L + 1) news) S1 da dl 1 .nil :=
  ⟨{ S with ex := (L + 1, o') :: off (L + 1) S.ex }, ⟨(hT.without cm).keep o' off_ne, ⟨k, D.past o' h1 h2, h0, hk⟩, ⟨o', .head _, dc⟩, FU.ex _, Nat.le_refl _, by show S.dom.length ≤ 0 + 1; rw [d0]; decide, h1⟩⟩
theorem LS.keep {w : World} {L : Addr} {wide high : Int} {n z : Nat} {news : Led} {S : TS} {da dl : Addr} {r : Int} {f : Fo} (H : LS w L wide high n z news S da dl r f) {I : Addr} (oi : Obj) (hne : ∀ p ∈ news, p.1 ≠ I) :
    ∃ S1, LS w L wide high n z ((I, oi) :: news) S1 da dl r f ∧ Same S S1 ∧ (I, oi) ∈ S1.ex ∧ (∀ p ∈ S.ex, p ∈ S1.ex) ∧ I ≠ da ∧ I ≠ dl ∧ I ≠ L + 1 := by
  obtain ⟨k, hD, h0, hk⟩ := H.deck
  obtain ⟨o, hc, ho⟩ := H.cell
  refine ⟨{ S with ex := (I, oi) :: S.ex }, ⟨H.tree.keep oi hne, ⟨k, hD.mono (fun p hp => .tail _ hp), h0, hk⟩, ⟨o, .tail _ hc, ho⟩, H.full.ex _, H.size, H.doms, H.ne⟩, ⟨rfl, rfl, rfl, rfl, rfl, rfl⟩, .head _, fun p hp => .tail _ hp, ?_, ?_, ?_⟩
  · obtain ⟨t, z, vs, ns, z2, a, b, _⟩ := hD.at_
    exact fun e => hne _ (H.tree.ex a) e.symm
  · obtain ⟨t, z, vs, ns, z2, a, b, _⟩ := hD.at_
    exact fun e => hne _ (H.tree.ex b) e.symm
  · exact fun e => hne _ (H.tree.ex hc) e.symm
theorem LS.keepN {w : World} {L : Addr} {wide high : Int} {n z : Nat} {news : Led} {S : TS} {da dl : Addr} {r : Int} {f : Fo} {h₀ h : Heap} {I : Addr} {oi : Obj} (N : News h₀ L h ((I, oi) :: news)) (H : LS w L wide high n z news S da dl r f) (hne : ∀ p ∈ news, p.1 ≠ I) :
    ∃ S1, LS w L wide high n z ((I, oi) :: news) S1 da dl r f ∧ Same S S1 ∧ (I, oi) ∈ S1.ex ∧ (∀ p ∈ S.ex, p ∈ S1.ex) ∧ I ≠ da ∧ I ≠ dl ∧ I ≠ L + 1 := H.keep oi hne
theorem LS.without {w : World} {L : Addr} {wide high : Int} {n z : Nat} {news : Led} {S : TS} {da dl : Addr} {r : Int} {f : Fo} (H : LS w L wide high n z news S da dl r f) {I : Addr} {oi : Obj} (hm : (I, oi) ∈ S.ex) (h1 : I ≠ da) (h2 : I ≠ dl) (h3 : I ≠ L + 1) :
    LS w L wide high n z (off I news) { S with ex := off I S.ex } da dl r f := by
  obtain ⟨k, hD, h0, hk⟩ := H.deck
  obtain ⟨o, hc, ho⟩ := H.cell
  obtain ⟨t, z', vs, ns, z2, a, b, d⟩ := hD.at_
  exact ⟨H.tree.without hm, ⟨k, ⟨⟨t, z', vs, ns, z2, mem_off a h1.symm, mem_off b h2.symm, d⟩, hD.ne⟩, h0, hk⟩, ⟨o, mem_off hc h3.symm, ho⟩, H.full.ex _, H.size, H.doms, H.ne⟩
theorem LS.sel {w : World} {L : Addr} {wide high : Int} {n z : Nat} {news news' : Led} {S : TS} {da dl : Addr} {r : Int} {f : Fo} (H : LS w L wide high n z news S da dl r f) {m : Int} (hT : TreeIn w news' { S with selected := m }) :
    ∃ S1, LS w L wide high n z news' S1 da dl r f ∧ Same1 S S1 ∧ S1.selected = m ∧ S1.ex = S.ex :=
  ⟨_, ⟨hT, H.deck, H.cell, H.full.sel m, H.size, H.doms, H.ne⟩, ⟨rfl, rfl, rfl, rfl, rfl⟩, rfl, rfl⟩
theorem LS.more {w : World} {L : Addr} {wide high : Int} {n z n' z' : Nat} {news : Led} {S : TS} {da dl : Addr} {r : Int} {f : Fo} (H : LS w L wide high n z news S da dl r f) (h1 : n ≤ n') (h2 : z ≤ z') : LS w L wide high n' z' news S da dl r f :=
  let ⟨k, a, b, c⟩ := H.deck; ⟨H.tree, ⟨k, a, b, by lia⟩, H.cell, H.full, Nat.le_trans H.size h2, by have := H.doms; lia, H.ne⟩
theorem LS.drop {w : World} {L : Addr} {wide high : Int} {n z : Nat} {news : Led} {S : TS} {da dl : Addr} {r : Int} {f : Fo} (H : LS w L wide high n z news S da dl r f) {news' : Led} (h : ∀ p ∈ news, p ∈ news') : LS w L wide high n z news' S da dl r f :=
  ⟨H.tree.mono h, H.deck, H.cell, H.full, H.size, H.doms, H.ne⟩
theorem LS.grow {w : World} {L : Addr} {wide high : Int} {n z : Nat} {news news' : Led} {S S' : TS} {da dl : Addr} {r r' : Int} {f f' : Fo} (H : LS w L wide high n z news S da dl r f) (T' : TreeIn w news' S') (F' : Full S' r' f' wide high)
    (hx : S'.x = S.x) (he : S'.ex = S.ex) (h1 : S'.dom.length ≤ S.dom.length + 2) (h2 : f'.size ≤ f.size + 2) : LS w L wide high n (z + 2) news' S' da dl r' f' :=
  ⟨T', he ▸ H.deck, let ⟨o, a, b⟩ := H.cell; ⟨o, he ▸ a, hx ▸ b⟩, F', by have := H.size; lia, by have := H.doms; lia, H.ne⟩
theorem Same.trans {S S1 S2 : TS} (h : Same S S1) (h2 : Same S1 S2) : Same S S2 := ⟨h2.x.trans h.x, h2.d.trans h.d, h2.root.trans h.root, h2.sel.trans h.sel, h2.dom.trans h.dom, h2.W.trans h.W⟩
/-- the names of the frame that are still asked -/
theorem fr_if {h₀ h : Heap} {L : Addr} {m m' : Str → Option Value} (F : Fr h₀ L h m) (e : m' = m) : Fr h₀ L h m' := e ▸ F
theorem if_name {m m' : Str → Option Value} {x : Str} {v : Option Value} (h : m x = v) (e : m' = m) : (fun y => if y = x then v else m' y) = m := by
  funext y
  by_cases q : y = x
  · rw [if_pos q, q, h]
  · rw [if_neg q, e]
end
section
theorem CallOk.pre {w : World} {mean : ExcName → Option Value} {mg mb : Str → Option Value} {f : Value} {args : List Value} {dn un₀ : Nat} {Pre Pre' : Led → Prop} {Post Post' : Led → Led → Value → Prop} (C : CallOk w mean mg mb f args dn un₀ Pre Post) (hp : ∀ news, Pre' news → Pre news) (h : ∀ news news' v, Pre' news → Post news news' v → Post' news news' v) :
    CallOk w mean mg mb f args dn un₀ Pre' Post' := fun dp un gd cn cs a ccd cl outer A₀ base h₀ L m news s Q E B F X N T hk hpp hd hu ret =>
  C dp un gd cn cs a ccd cl outer A₀ base h₀ L m news s Q E B F X N T hk (hp _ hpp) hd hu fun r news' h' tk' F' N' p => ret r news' h' tk' F' N' (h _ _ _ hpp p)
theorem draw_ok {w : World} {mean : ExcName → Option Value} {mg mb : Str → Option Value} (da dl : Addr) (k : Int) (h0 : 0 ≤ k) (hk : k ≤ 900) (many : Int) (tm : Tok) (hm : 1 ≤ many) (hm2 : many ≤ 1000) :
    CallOk w mean mg mb (.ref 353) [.ref da, .int many tm] 10 300 (fun news => DeckIn news da dl k)
      (fun news news' v => DeckIn news' da dl (k + 1) ∧ (∀ p ∈ news, p.1 ≠ da → p ∈ news') ∧ ∃ r t, v = .int r t ∧ 0 ≤ r ∧ r < many) := by
  intro dp un gd cn cs a ccd cl outer A₀ base h₀ L m news s Q E B F X N T hkk hpp hd hu ret
  obtain ⟨t, z, vs, ns, z2, e1, e2, hi, hns⟩ := hpp.at_
  refine law_draw_ok da dl k t z vs ns z2 hi hns h0 hk hpp.ne many tm hm hm2 dp un gd cn cs a ccd cl outer A₀ base h₀ L m news s Q E B F X N T hkk ⟨e1, e2⟩ hd hu fun r news' h' tk' F' N' p => ret r news' h' tk' F' N' ?_
  obtain ⟨t', tv, r', z', rfl, hv, q1, q2⟩ := p
  exact ⟨hpp.turn, fun p hp hne => .tail _ (mem_off hp hne), r', tv, hv, q1, q2⟩
theorem draw_at {w : World} {mean : ExcName → Option Value} {mg mb : Str → Option Value} {l : Led} {da dl : Addr} {k : Int} (D : DeckIn l da dl k) (h0 : 0 ≤ k) (hk : k ≤ 900) (many : Int) (tm : Tok) (hm : 1 ≤ many) (hm2 : many ≤ 1000) :
    CallOk w mean mg mb (.ref 353) [.ref da, .int many tm] 10 300 (fun news => DeckIn news da dl k)
      (fun news news' v => DeckIn news' da dl (k + 1) ∧ (∀ p ∈ news, p.1 ≠ da → p ∈ news') ∧ ∃ r t, v = .int r t ∧ 0 ≤ r ∧ r < many) := draw_ok da dl k h0 hk many tm hm hm2
theorem drawT_ok {w : World} {mean : ExcName → Option Value} {mg mb : Str → Option Value} (S : TS) {da dl : Addr} {k : Int} (hD : DeckIn S.ex da dl k) (h0 : 0 ≤ k) (hk : k ≤ 900) (many : Int) (tm : Tok) (hm : 1 ≤ many) (hm2 : many ≤ 1000) :
    CallOk w mean mg mb (.ref 353) [.ref da, .int many tm] 10 300 (fun news => TreeIn w news S)
      (fun news news' v => ∃ ex', DeckIn ex' da dl (k + 1) ∧ (∀ p ∈ S.ex, p.1 ≠ da → p ∈ ex') ∧ TreeIn w news' { S with ex := ex' } ∧ ∃ r t, v = .int r t ∧ 0 ≤ r ∧ r < many) := by
  intro dp un gd cn cs a ccd cl outer A₀ base h₀ L m news s Q E B F X N T hkk hpp hd hu ret
  obtain ⟨t, z, vs, ns, z2, e1, e2, hi, hns⟩ := hD.at_
  refine law_draw_ok da dl k t z vs ns z2 hi hns h0 hk hD.ne many tm hm hm2 dp un gd cn cs a ccd cl outer A₀ base h₀ L m news s Q E B F X N T hkk ⟨hpp.ex e1, hpp.ex e2⟩ hd hu fun r news' h' tk' F' N' p => ret r news' h' tk' F' N' ?_
  obtain ⟨t', tv, r', z', rfl, hv, q1, q2⟩ := p
  exact ⟨_, hD.turn, fun p hp hne => .tail _ (mem_off hp hne), hpp.deck e1 _, r', tv, hv, q1, q2⟩
end
section
section
variable {prog : Program} {w : World} {A : Around} {E : Value → Shared → Prop} {Q : Flow → Shared → Prop} {s : Shared} {env : Env} {h₀ : Heap} {x : Str} {body : List Stmt}
/-- a for over a tuple of the ledger, by an invariant over a state of one's own -/
theorem for_tuple {σ : Type} {l : Addr} {vs : List Value} {lo : Obj} {nn : Nat} {m₀ : Str → Option Value} (Ld : σ → Led) (stored : List Str) (P : Nat → σ → Prop) (c₀ : σ)
    (hh : A.handled = none) (hlc : lo.cls = .type "tuple") (hld : lo.data = .seq vs.toArray nn) (hl : ∀ i c, P i c → (l, lo) ∈ Ld c) (F : Fr h₀ env.locals s.heap m₀) (N : News h₀ env.locals s.heap (Ld c₀)) (hp : P 0 c₀)
    (turn : ∀ i v I oi c (u : Str → Option Value) h tk, vs[i]? = some v → P i c → (∀ p ∈ Ld c, p.1 ≠ I) → Fr h₀ env.locals h (fun y => if y = x then some v else if stored.contains y then u y else m₀ y) → News h₀ env.locals h ((I, oi) :: Ld c) →
      wpAny (model prog w) A (execs body env) (FPost h₀ env.locals I oi Ld (x :: stored) m₀ (P (i + 1)) { s with heap := h, toks := tk } Q) E { s with heap := h, toks := tk })
    (done : ∀ c (u : Str → Option Value) h tk, P vs.length c → Fr h₀ env.locals h (fun y => if (x :: stored).contains y then u y else m₀ y) → News h₀ env.locals h (Ld c) → Q .next { s with heap := h, toks := tk }) :
    wpAny (model prog w) A (pyIter (.ref l)) (fun it s₂ => LoopAtV prog w A h₀ env x body Q E it s₂) E s := by
  have hol : s.heap.get? l = some lo := (N _ (hl _ _ hp)).1
  have hls : s.heap.IsTuple l vs.toArray := ⟨_, hol, hlc, nn, hld⟩
  have hne : l ≠ s.heap.objs.size := Nat.ne_of_lt (Heap.lt_size hol)
  refine wpAny_pyIter_tuple hls ?_
  have W := Walks.tuple (prog := prog) (w := w) hh s.heap.objs.size l hne vs.toArray
  have hlen : vs.toArray.size = vs.length := by simp
  rw [hlen] at W
  refine ⟨_, _, _, vs.length, _, _, m₀, Ld c₀, (fun i m nx => ∃ c, nx = Ld c ∧ P i c ∧ ∀ z, (x :: stored).contains z = false → m z = m₀ z), rfl, W, ?_, ?_, ?_, ⟨⟨_, Heap.get?_push_size _ rfl, rfl, rfl⟩, hls.at fun o e => Heap.get?_push_of_some _ e⟩, F.push _, (fun p hp => ⟨Heap.get?_push_of_some _ (N p hp).1, (N p hp).2⟩), ⟨c₀, rfl, hp, fun _ _ => rfl⟩, ?_, ?_⟩
  · intro hm
    rcases List.mem_cons.mp hm with e | hm
    · exact absurd F.ns.lt (e ▸ Nat.lt_irrefl _)
    · exact (N _ (hl _ _ hp)).2.1 ((List.mem_singleton.mp hm).symm)
  · intro b hb
    rw [List.mem_singleton.mp hb]
    exact next_is_new F
  · intro p hp hI
    exact absurd (Heap.lt_size (N p hp).1) ((List.mem_singleton.mp hI) ▸ Nat.lt_irrefl _)
  · rintro i v m₁ news₁ s₁ own ⟨hh', tk', rfl⟩ hin hP ⟨c, rfl, hpc, hm⟩ hoff hown hget hfp hst F₁ N₁
    have hI0 : h₀.get? s.heap.objs.size = none := next_is_new F
    obtain ⟨⟨oi, hoi, _⟩, _⟩ := hst
    have hmI : (s.heap.objs.size, oi) ∈ own := hfp _ (.head _) hI0 oi hoi
    have hneI : ∀ p ∈ Ld c, p.1 ≠ s.heap.objs.size := fun p hp e => hoff p hp (by rw [e]; exact List.mem_singleton.mpr rfl)
    have hv : vs[i]? = some v := by simpa using hP
    have N₂ : News h₀ env.locals hh' ((s.heap.objs.size, oi) :: Ld c) := fun p hp => by
      rcases List.mem_cons.mp hp with rfl | hp
      · exact N₁ _ (List.mem_append_left _ hmI)
      · exact N₁ _ (List.mem_append_right _ hp)
    refine wpAny_mono (turn i v _ oi c m₁ hh' tk' hv hpc hneI (fr_turn hm F₁) N₂) (fun f s₂ p => ?_) fun _ _ e => e
    have fin : FEnd h₀ env.locals s.heap.objs.size oi Ld (x :: stored) m₀ (P (i + 1)) { s with heap := hh', toks := tk' } s₂ →
        LoopStepU h₀ env.locals [s.heap.objs.size] own (fun m nx => ∃ c, nx = Ld c ∧ P (i + 1) c ∧ ∀ z, (x :: stored).contains z = false → m z = m₀ z) { s with heap := hh', toks := tk' } .next s₂ := by
      rintro ⟨c', h', tk, m', news', e, F', N', hI, hn, hne', hr, hp'⟩
      refine ⟨rfl, h', tk, m', Ld c', e, F', fun p hp => ?_, fun p hp hI => hne' p hp (List.mem_singleton.mp hI), c', rfl, hp', hr⟩
      rcases List.mem_append.mp hp with h | h
      · rcases List.mem_cons.mp (hown p h) with h2 | h2
        · have h3 : hh'.get? p.1 = some p.2 := hget p h
          have h5 : hh'.get? p.1 = some oi := by rw [h2]; exact hoi
          rw [h5] at h3
          have h4 : p = (s.heap.objs.size, oi) := Prod.ext h2 (Option.some.inj h3).symm
          rw [h4]; exact N' _ hI
        · have h1 : p.1 = l := List.mem_singleton.mp h2
          have h3 : hh'.get? p.1 = some p.2 := hget p h
          have hlo : hh'.get? p.1 = some lo := by rw [h1]; exact (N₁ _ (List.mem_append_right _ (hl _ _ hpc))).1
          rw [hlo] at h3
          have h4 : p = (l, lo) := Prod.ext h1 (Option.some.inj h3).symm
          rw [h4]; exact N' _ (hn _ (hl _ _ hp'))
      · exact N' p (hn p h)
    cases f with
    | ret v => exact .ret p
    | brk => exact .brk p
    | next => exact .next (fin p)
    | cont => exact .cont (fin p)
  · rintro h' tk m' news' F' N' _ ⟨c, rfl, hpc, hm⟩
    exact done c m' h' tk hpc (fr_stored hm F') N'

end
end
section
section
variable {w : World} {A₀ : Around} {E : Value → Shared → Prop} {s' : Shared} {h₀ h : Heap} {outer : List Env} {L a e ed : Addr} {m : Str → Option Value} {name : Str} {scope : Scope} {cd : Value} {cl : List (Str × Addr)}
  {n : Str} {b₀ : Stmt} {suite : List Stmt} {pos np : Pos} {rest : List ExceptHandler} {Q : Flow → Shared → Prop} {news : Led}
  {p : Program} {loose : List Str} {mg mb : Str → Option Value}
/-- an exception of the text's own class, met by its name -/
theorem caught0X (K : Below A₀ h₀ outer h₀) (F : Fr h₀ L h m) (hsm : h.UpToSlots s'.heap) (R : RaisedP (ExcP ed) h₀ (envX name scope L a cd cl :: outer) e news s'.heap)
    (X : (Mine.hd.heap_1 w.params).In h₀) (T : TopRead p loose mg mb h₀) (ex : nsIn (Mine.hd.heap_1 w.params) mainGlobals (Str.ofString "LispSignal") = some (some (.ref 38)))
    (k : ∀ h' oe, Fr h₀ L h' m → News h₀ L h' ((e, oe) :: news) → ExcP ed oe → (∃ vs, oe.data = .fields vs) →
      wpAny (model PySem.Challenge.rw_np0059_01.row.prog w) ((A₀.deeper (envX name scope L a cd cl)).mark (some (.ref e))) (execs (b₀ :: suite) (envX name scope L a cd cl)) Q E { s' with heap := h' })
    (hk : scope.kind = .function := by rfl) (hx : (envX name scope L a cd cl).kindOf (Str.ofString "LispSignal") = some .globalImplicit := by rfl)
    (hE : PassesOwnAt (model PySem.Challenge.rw_np0059_01.row.prog w) ((A₀.deeper (envX name scope L a cd cl)).mark (some (.ref e))) (A₀.deeper (envX name scope L a cd cl)) (envX name scope L a cd cl) E := by passes_own) :
    wpAny (model PySem.Challenge.rw_np0059_01.row.prog w) (A₀.deeper (envX name scope L a cd cl)) (noteFrame (.ref e) (envX name scope L a cd cl))
      (fun _ s₂ => wpAny (model PySem.Challenge.rw_np0059_01.row.prog w) (A₀.deeper (envX name scope L a cd cl)) (setFlight (.ref e) none) (fun _ s₃ =>
        wpAny (model PySem.Challenge.rw_np0059_01.row.prog w) (A₀.deeper (envX name scope L a cd cl)) (handleBy (.ref e) (envX name scope L a cd cl) (.ExceptHandler (some (.Name (Str.ofString "LispSignal") np)) none (b₀ :: suite) pos :: rest)) Q E s₃) E s₂) E s' := by
  obtain ⟨B, hB, hl, y⟩ := R
  obtain ⟨hL, hne⟩ := y.frameL rfl
  refine note_nextP (ExcP.still ed) (Around.frames_deeper K.stack) rfl y fun h₄ y4 u4 => ?_
  refine flight_noneP y4 fun h₅ y5 u5 => ?_
  have F₅ := F.of_stays (y5.onBase hB).1 (hsm.trans (u4.trans u5))
  refine wpAny_handleBy_cons (codeAny_handlers_test (nameX_K F₅ X T ex ?_ hk hx (by decide))) (by intro q; cases q)
  obtain ⟨oe, _, _, _, _, hoe, hpo, _⟩ := y5.2.2.2
  refine wpAny_excMatches_sub_self (cls38 (X.keeps F₅.keep)) hoe hpo.1 (by decide) (codeAny_handlers_suite ?_)
  refine flight_noneP y5 fun h₆ y6 u6 => ?_
  have y6' := y6.onBase hB
  have F₆ := F.of_stays y6'.1 (hsm.trans (u4.trans (u5.trans u6)))
  obtain ⟨oe6, vs6, _, _, _, hoe6, hpo6, hd6, _⟩ := y6.2.2.2
  refine wpAny_passesOwnAt hE (k h₆ oe6 F₆ (fun q hq => ?_) hpo6 ⟨vs6, hd6⟩)
  rcases List.mem_cons.mp hq with rfl | hq
  · exact ⟨hoe6, hne, y6'.2.1⟩
  · exact ⟨y6.1 _ _ (hl q hq).1, (fun z => by have := (hl q hq).1; rw [z, hL] at this; cases this), (hl q hq).2⟩
theorem caughtBX (K : Below A₀ h₀ outer h₀) (F : Fr h₀ L h m) (hsm : h.UpToSlots s'.heap) (R : RaisedP (ExcP ed) h₀ (envX name scope L a cd cl :: outer) e news s'.heap)
    (X : (Mine.hd.heap_1 w.params).In h₀) (T : TopRead p loose mg mb h₀) (ex : nsIn (Mine.hd.heap_1 w.params) mainGlobals (Str.ofString "LispSignal") = some (some (.ref 38)))
    (k : ∀ h' oe tk, Fr h₀ L h' (fun y => if y = n then some (.ref e) else m y) → News h₀ L h' ((e, oe) :: news) → ExcP ed oe → (∃ vs, oe.data = .fields vs) →
      wpAny (model PySem.Challenge.rw_np0059_01.row.prog w) ((A₀.deeper (envX name scope L a cd cl)).mark (some (.ref e))) (execs (b₀ :: suite) (envX name scope L a cd cl))
        (fun f s₄ => wpAny (model PySem.Challenge.rw_np0059_01.row.prog w) (A₀.deeper (envX name scope L a cd cl)) (do bindName (envX name scope L a cd cl) n .none; unbindBehindTheSuite (envX name scope L a cd cl) n pos) (fun _ s₅ => Q f s₅) E s₄)
        (AsSuiteRaised (model PySem.Challenge.rw_np0059_01.row.prog w) ((A₀.deeper (envX name scope L a cd cl)).mark (some (.ref e))) (envX name scope L a cd cl) n pos (notedBy (model PySem.Challenge.rw_np0059_01.row.prog w) ((A₀.deeper (envX name scope L a cd cl)).mark (some (.ref e))) (envX name scope L a cd cl) (cameBackBy (model PySem.Challenge.rw_np0059_01.row.prog w) (A₀.deeper (envX name scope L a cd cl)) (envX name scope L a cd cl) E)))
        { s' with heap := h', toks := tk })
    (hk : scope.kind = .function := by rfl) (hlo : (envX name scope L a cd cl).kindOf n = some .local := by rfl) (hx : (envX name scope L a cd cl).kindOf (Str.ofString "LispSignal") = some .globalImplicit := by rfl) :
    wpAny (model PySem.Challenge.rw_np0059_01.row.prog w) (A₀.deeper (envX name scope L a cd cl)) (noteFrame (.ref e) (envX name scope L a cd cl))
      (fun _ s₂ => wpAny (model PySem.Challenge.rw_np0059_01.row.prog w) (A₀.deeper (envX name scope L a cd cl)) (setFlight (.ref e) none) (fun _ s₃ =>
        wpAny (model PySem.Challenge.rw_np0059_01.row.prog w) (A₀.deeper (envX name scope L a cd cl)) (handleBy (.ref e) (envX name scope L a cd cl) (.ExceptHandler (some (.Name (Str.ofString "LispSignal") np)) (some n) (b₀ :: suite) pos :: rest)) Q E s₃) E s₂) E s' := by
  obtain ⟨B, hB, hl, y⟩ := R
  obtain ⟨hL, hne⟩ := y.frameL rfl
  refine note_nextP (ExcP.still ed) (Around.frames_deeper K.stack) rfl y fun h₄ y4 u4 => ?_
  refine flight_noneP y4 fun h₅ y5 u5 => ?_
  have F₅ := F.of_stays (y5.onBase hB).1 (hsm.trans (u4.trans u5))
  refine wpAny_handleBy_cons (codeAny_handlers_test (nameX_K F₅ X T ex ?_ hk hx (by decide))) (by intro q; cases q)
  obtain ⟨oe, _, _, _, _, hoe, hpo, _⟩ := y5.2.2.2
  refine wpAny_excMatches_sub_self (cls38 (X.keeps F₅.keep)) hoe hpo.1 (by decide) (codeAny_handlers_suite_as ?_)
  refine flight_noneP y5 fun h₆ y6 u6 => ?_
  have y6' := y6.onBase hB
  have F₆ := F.of_stays y6'.1 (hsm.trans (u4.trans (u5.trans u6)))
  obtain ⟨oe6, vs6, _, _, _, hoe6, hpo6, hd6, _⟩ := y6.2.2.2
  have N₆ : News h₀ L h₆ ((e, oe6) :: news) := fun q hq => by
    rcases List.mem_cons.mp hq with rfl | hq
    · exact ⟨hoe6, hne, y6'.2.1⟩
    · exact ⟨y6.1 _ _ (hl q hq).1, (fun z => by have := (hl q hq).1; rw [z, hL] at this; cases this), (hl q hq).2⟩
  refine storeX_L F₆ N₆ (fun h₇ F₇ N₇ => ?_) hk hlo
  exact k h₇ oe6 _ F₇ N₇ hpo6 ⟨vs6, hd6⟩
end
end
section
theorem LS.draw {w : World} {mean : ExcName → Option Value} {mg mb : Str → Option Value} {L : Addr} {wide high : Int} {n z : Nat} {news : Led} {S : TS} {da dl : Addr} {r : Int} {f : Fo} (H : LS w L wide high n z news S da dl r f) (hn : n ≤ 800)
    (many : Int) (tm : Tok) (hm : 1 ≤ many) (hm2 : many ≤ 1000) :
    CallOk w mean mg mb (.ref 353) [.ref da, .int many tm] 10 300 (fun news => TreeIn w news S)
      (fun _ news' v => ∃ S1, LS w L wide high (n + 1) z news' S1 da dl r f ∧ Same S S1 ∧ (∀ p ∈ S.ex, p.1 ≠ da → p ∈ S1.ex) ∧ ∃ r' t, v = .int r' t ∧ 0 ≤ r' ∧ r' < many) := by
  obtain ⟨k, hD, h0, hk⟩ := H.deck
  obtain ⟨o, hc, ho⟩ := H.cell
  refine (drawT_ok S hD h0 (by lia) many tm hm hm2).mono fun _ news' v h => ?_
  obtain ⟨ex', D', K', T', hv⟩ := h
  exact ⟨{ S with ex := ex' }, ⟨T', ⟨k + 1, D', by lia, by lia⟩, ⟨o, K' _ hc H.ne.symm, ho⟩, H.full.ex _, H.size, H.doms, H.ne⟩, ⟨rfl, rfl, rfl, rfl, rfl, rfl⟩, K', hv⟩
theorem rng_size (b : Int) : Builtin.Range.rangeSize 0 b 1 = ((b.toNat : Nat) : Int) := by rw [rangeSize_nat]; simp
theorem rng_small (b : Int) (h0 : 0 ≤ b) (h1 : b ≤ 1000) : Builtin.Range.small 0 b 1 = true := small_one (by lia) (by lia) (by lia) (by lia)
section
variable {M : Model} {A : Around} {E : Value → Shared → Prop} {s : Shared} {h₀ : Heap} {L a : Addr} {m : Str → Option Value} {name : Str} {scope : Scope} {cd : Value} {cl : List (Str × Addr)} {news : Led}
theorem name_goesX {n : Str} {pos : Pos} {Q : Unit → Shared → Prop} (F : Fr h₀ L s.heap m) (N : News h₀ L s.heap news)
    (h : ∀ h' v, Fr h₀ L h' (fun x => if x = n then v else m x) → News h₀ L h' news → Q () { s with heap := h', toks := s.toks + 1 })
    (hk : scope.kind = .function := by rfl) (hl : (envX name scope L a cd cl).kindOf n = some .local := by rfl) :
    wpAny M A (do bindName (envX name scope L a cd cl) n .none; unbindBehindTheSuite (envX name scope L a cd cl) n pos) Q E s :=
  wpAny_nameGoes_keeps hl F.ns (by show (scope.kind == .class || (scope.kind == .module && L != mainGlobals)) = false; rw [hk]; rfl) fun h' v hn hs => h h' v (F.set hn hs) (N.set hs)
end
end
section
section
variable {prog : Program} {w : World} {A : Around} {E : Value → Shared → Prop} {s : Shared} {h₀ : Heap} {L D b : Addr} {m : Str → Option Value} {news news' : Led} {n n2 : Nat}
theorem item_at {vs : List Value} {ns : List Int} {x : Int} {t : Tok} {value slice : Expr} {Q : Value → Shared → Prop} (N : News h₀ L s.heap news) (hm : (D, listOf vs.toArray n) ∈ news) (hi : IntsAre vs ns) (h0 : 0 ≤ x) (h1 : x < ns.length) (h2 : ns.length ≤ 1000)
    (h : ∀ (t : Tok) (v : Int) (i : Nat), ns[i]? = some v → Q (.int v t) s)
    (hs : subscripted slice false (.ref D) (.int x t) = operate [.ref D, .int x t] (getItem (.ref D) (.int x t)) := by with_unfolding_all rfl) :
    wpAny (model prog w) A (subscriptTail value slice (.ref D) (.int x t)) Q E s := by
  have hx : x.toNat < ns.length := by lia
  obtain ⟨tv, hv⟩ := hi.get x.toNat ns[x.toNat] (by simp [hx])
  exact get_tail N hm (wpAny_getItem_list ⟨_, (N _ hm).1, rfl, _, rfl⟩ h0 (by lia) (by simpa using hv) (h _ _ x.toNat (by simp [hx]))) hs
theorem item_last {vs : List Value} {ns : List Int} {k : Int} {t : Tok} {value slice : Expr} {Q : Value → Shared → Prop} (N : News h₀ L s.heap news) (hm : (D, listOf vs.toArray n) ∈ news) (hi : IntsAre vs (ns ++ [k])) (h2 : ns.length ≤ 1000)
    (h : ∀ t, Q (.int k t) s)
    (hs : subscripted slice false (.ref D) (.int (-1) t) = operate [.ref D, .int (-1) t] (getItem (.ref D) (.int (-1) t)) := by with_unfolding_all rfl) :
    wpAny (model prog w) A (subscriptTail value slice (.ref D) (.int (-1) t)) Q E s := by
  obtain ⟨us, t', rfl, hu⟩ := ints_last hi
  refine get_tail N hm (wpAny_getItem_list_neg (k := -1) ⟨_, (N _ hm).1, rfl, _, rfl⟩ (by decide) ?_ (by decide) ?_ (h t')) hs
  · simp only [List.size_toArray, List.length_append, List.length_cons, List.length_nil]; lia
  · have e : ((-1 : Int) + (((us ++ [Value.int k t']).toArray.size : Nat) : Int)).toNat = us.length := by
      simp only [List.size_toArray, List.length_append, List.length_cons, List.length_nil]; lia
    rw [e]; simp
end
section
open LCg
variable {prog : Program} {w : World} {A : Around} {E : Value → Shared → Prop} {s : Shared} {h₀ : Heap} {L : Addr} {m : Str → Option Value} {env : Env}
theorem comp_all {elt : Expr} {x : Str} {scope : Scope} {cl : List (Str × Addr)} {S : List (Addr × Obj) → Prop} {P : Nat → Value → Prop} {Fin : List Value → List (Addr × Obj) → Prop} {n : Nat} (Inv : Nat → List Value → List (Addr × Obj) → Prop)
    (fin : ∀ ys news, Inv n ys news → Fin ys news)
    (step : ∀ i ys news v I oI C oC D m₂ h tk (E' : Value → Shared → Prop), i < n → Inv i ys news → P i v → LCg.NsObj oC m₂ → m₂ x = some v → Fr h₀ L h m → News h₀ L h ((I, oI) :: (C, oC) :: (D, lst ys) :: news) → Off3 I C D news → ((@Ne Nat I C) ∧ (@Ne Nat I D) ∧ (@Ne Nat C D)) →
      wpAny (model prog w) A (eval elt (compEnvC scope cl C env)) (CompEnd h₀ L m { s with heap := h, toks := tk } I oI C oC D (lst ys) S (fun y news' => Inv (i + 1) (ys ++ [y]) news')) E' { s with heap := h, toks := tk }) :
    ∀ k i ys news, i + k = n → Inv i ys news → CompRest prog w A h₀ L m env elt x scope cl s S P Fin k i ys news
  | 0, i, ys, news, e, h => by
    have : i = n := by lia
    subst this
    exact fin ys news h
  | k + 1, i, ys, news, e, hI => fun v I oI C oC D m₂ h tk E' a b c d f g j =>
    wpAny_mono (step i ys news v I oI C oC D m₂ h tk E' (by lia) hI a b c d f g j) (fun y s₂ h₂ =>
      let ⟨h', tk', news', e1, e2, e3, e4, e5, e6⟩ := h₂
      ⟨h', tk', news', e1, e2, e3, e4, e5, comp_all Inv fin step k (i + 1) (ys ++ [y]) news' (by lia) e6⟩) fun _ _ x => x
end
end
local macro_rules | `(tactic| walk_at "exec For Name Tuple cons nil") => `(tactic| k_extra "exec For Name Tuple cons nil")
local macro_rules | `(tactic| walk_at "exec Try") => `(tactic| k_extra "x exec Try")
local macro_rules | `(tactic| walk_at "getAttr ref") => `(tactic| k_extra "x getAttr ref")
local macro_rules | `(tactic| walk_at "bind") => `(tactic| k_extra "x bind")
local macro_rules | `(tactic| walk_at "exec Return some") => `(tactic| k_extra "exec Return some")
local macro_rules | `(tactic| walk_at "FPostM") => `(tactic| k_extra "x FPostM")
local macro_rules | `(tactic| walk_at "subscriptTail") => `(tactic| k_extra "x subscriptTail")
local macro_rules | `(tactic| walk_at "eval ListComp") => `(tactic| k_extra "eval ListComp")
local macro_rules | `(tactic| walk_at "CompSrc") => `(tactic| k_extra "CompSrc")
local macro_rules | `(tactic| walk_at "CompEnd") => `(tactic| k_extra "CompEnd")
local macro_rules | `(tactic| walk_at "compareOp NotEq ref ref") => `(tactic| k_extra "neq")
local macro_rules | `(tactic| walk_at "execs cons") => `(tactic| k_extra "execs")
section
theorem fresh_S03 : True := by
  w_top off
  k_with_none
  k_with "w k_mem" => (with_unfolding_all refine memIn ?_; ktr_member)
  k_with "w units_room" => ktr_units
  k_with "w k_room" => ktr_room
  k_with "zT" => first | assumption | ((refine TreeIn.mono (by assumption) ?_); repeat (first | exact sub_nil | refine sub_tail ?_))
  k_with "zn" => first | assumption | exact .head _ | exact .tail _ (by assumption)
  k_with "zA" => first | k_extra "zx" | exact upd_ne _ _ (by first | assumption | exact Ne.symm (by assumption))
  k_with "zx" => first | with_reducible rfl | assumption
  k_with "zP" => exact ⟨by k_asm, by k_asm, by k_asm, by k_extra "zT", by k_extra "zn", by k_extra "zA"⟩
  k_with "zQ" => exact ⟨by k_asm, by k_asm, by k_asm, by k_extra "zT", by k_extra "zx", by k_extra "zx"⟩
  k_with "zX" => exact ⟨by k_asm, by k_asm, by k_asm, by k_extra "zT", by k_extra "zx"⟩
  k_with "zC" => exact ⟨by k_asm, by k_asm, by k_asm, by k_asm, by k_asm⟩
  k_with "w ktr_room" => first | exact room1 (by assumption) rfl | exact room0 (by assumption) rfl | exact room2 (by assumption) rfl | ((simp +zetaDelta only [depth_under_make, depth_under_kw, depth_in1, depth_deeper, depth_caller, recursionLimit] at *); omega)
  k_with "w ktr_units" => first | exact room0 (by assumption) rfl | exact room1 (by assumption) rfl | (have zcL := cLine_is; (simp +zetaDelta only [units_in1, units_deeper, Around.mark_units, units_caller] at *); omega)
  k_with "zL" => ((try simp only [List.length_reverse, List.length_map, List.length_append, List.length_cons, List.length_nil]); omega)
  k_with "w call builtin:list.pop" => (k_here; k_dflt (refine pop_last (by k_asm) (by k_asm) (by k_upd) (by first | omega | assumption) ?_); intro _ _ _; (try k_sweep))
  k_with "w call builtin:list.extend" => (k_here; (with_reducible show wpAny _ _ (call (Value.builtin _) [Value.ref _, Value.ref _]) _ _ _); k_dflt (refine ext_ints (by k_asm) (by k_asm) (by k_mem) (by k_updF) (by l_ints) (by k_extra "zL") ?_); intro _ _ _ zN; (try dsimp only at zN); (try k_sweep))
  k_with "w setAttr ref" => (k_here; k_dflt (refine set_s (by k_asm) (by k_asm) (by k_asm) (by k_inst) (by rfl) (by k_is) (by k_is) (by k_is) (by k_is) (by k_get) (by k_put) (by k_updF) (by exact Nat.le_of_ble_eq_true rfl) ?_; k_whole); intro _ _ _ _ _; (try k_sweep))
  k_with "w call builtin:list.append" => (k_here; (with_reducible show wpAny _ _ (call (Value.builtin _) [Value.ref _, _]) _ _ _); k_dflt (refine app_any (by k_asm) (by k_asm) (by k_upd) (by first | omega | k_extra "zL") ?_); intro _ _ zN; (try dsimp only at zN); (try k_sweep))
  k_with "w execs cons" => (k_here; first | (refine execs_shut (s := ‹Shared›) ?_; intro _ _ _) | (refine execs_lit ?_; intro _ _ _) | (refine execs_shut0 ?_; intro _ _))
  k_with "w SPost" => first | refine spost_next (by assumption) ?_ | refine spost_ret (by assumption) ?_ | refine spost_cont (by assumption) ?_ | refine spost_brk (by assumption) ?_
  k_with "w CPost" => (refine cpost_of (by assumption) ?_)
  k_with "w WPost" => (dsimp only [WPost])
  k_with "w ksw_same" => (intro zz z3; (simp only [List.contains_cons, List.contains_nil, Bool.or_false, Bool.or_eq_false_iff, beq_eq_false_iff_ne, ne_eq] at z3); first | (simp [z3]; done) | (simp +zetaDelta [z3]; done))
  k_with "w FPost" => (dsimp only [FPost])
  k_with "w execs nil" => with_reducible refine wpAny_execs_nil ?_
  k_with "w call builtin:len" => (k_here; (with_reducible show wpAny _ _ (call (Value.builtin "len") [Value.ref _]) _ _ _); (refine len_ints (by k_asm) (by k_dflt k_mem) (by with_reducible assumption) (by k_extra "zL") ?_); (try simp only [List.length_map]))
  k_with "w eval Dict" => (k_here; k_dflt (refine kdn_str (by rfl) (by k_asm) (by first | k_asm | exact News.nil) (by exact Top.nolimit (by k_asm)) (by rfl) (by rfl) (by exact List.cons_ne_nil _ _) (by exact Nat.le_of_ble_eq_true rfl) ?_); intro zd zh zo zF zN zl zlo zhd; (try k_lt zl))
  k_with "w eval Constant int" => (with_reducible refine const_int_s ?_; intro _)
  k_with "w eval Constant str" => (with_reducible refine const_str_s ?_; intro _)
  k_with "w binaryOp Add int int" => (with_reducible refine add_int_s ?_; intro _)
  k_with "w binaryOp Sub int int" => (with_reducible refine sub_int_s ?_; intro _)
  k_with "w storeName" => (k_here; k_dflt (refine store_s (by k_asm) (by k_asm) ?_ rfl rfl; k_whole); intro _ _ _ _ _; (try k_sweep))
  k_with "w newTuple" => (k_here; kup_bare; k_dflt (refine tuple_s (by k_asm) (by k_asm) ?_ (by kmk_size)); intro _ _ _ _ zl; (try k_lt zl); (try k_sweep))
  k_with "w ktr_enter" => first | (refine enter_s (by k_extra "zC") rfl rfl (by first | assumption | exact rfl) (by k_is) (by k_is) (by ktr_room) (by first | exact BindsTo.of_eq rfl | exact binds_K (by k_in) rfl (by k_is) rfl rfl rfl) (by exact locs rfl) (by rfl) ?_ (by rfl) (by rfl) (by rfl) (by decide); k_whole; intro _ _ _ _ _ _ _ _ _ _ _ _; (try dsimp only); (try k_fold)) | (refine enterC_s (by k_extra "zC") rfl rfl (by first | assumption | exact rfl) (by k_is) (by k_is) (by ktr_room) (by first | exact BindsTo.of_eq rfl | exact binds_K (by k_in) rfl (by k_is) rfl rfl rfl) (by rfl) (by decide +kernel) ?_ (by rfl) (by rfl) (by rfl); k_whole; intro _ _ _ _ _ _ _ _ _ zN zY _ _ _ zl; (try k_lt zl); k_cells zY; (try simp only [List.cons_append, List.nil_append] at zN); (try dsimp only); (try k_fold))
  k_with "w getAttr ref" => (k_here; (with_reducible show wpAny _ _ (getAttr (Value.ref (AD.x (TS.A _ _))) _ _) _ _ _); first | ((with_reducible (first | apply rs_number | apply rs_sort | apply rs_parent | apply rs_left | apply rs_top | apply rs_width | apply rs_height)); (next => k_extra "zP"); intro _ _) | ((with_reducible (apply rs_children)); (next => k_extra "zP"); intro _) | ((with_reducible (first | apply rs_buffer | apply rs_start | apply rs_point | apply rs_hscroll)); (next => k_extra "zP"); intro _ _ _) | ((with_reducible (apply rs_earlier)); (next => k_extra "zP"); intro _ _ _ _))
  k_with "w getAttr ref" => (k_here; (with_reducible show wpAny _ _ (getAttr (Value.ref (TS.x _)) _ _) _ _ _); first | ((with_reducible (apply rs_t_windows)); (next => k_extra "zQ"); intro _) | ((with_reducible (first | apply rs_t_root | apply rs_t_selected | apply rs_t_last | apply rs_t_least_width | apply rs_t_least_height)); (next => k_extra "zQ"); intro _ _) | ((with_reducible (apply rs_t_clock)); (next => k_extra "zQ"); intro _ _ _))
  k_with "w getMethod ref" => (k_here; (with_reducible show wpAny _ _ (getMethod (Value.ref (AD.x (TS.A _ _))) _ _) _ _ _); ((with_reducible (first | apply ms_size | apply ms_set_size | apply ms_place | apply ms_shown | apply ms_show)); (next => k_extra "zP")))
  k_with "w getMethod ref" => (k_here; (with_reducible show wpAny _ _ (getMethod (Value.ref (TS.x _)) _ _) _ _ _); ((with_reducible (first | apply ms_t_window | apply ms_t_leaf | apply ms_t_touch | apply ms_t_fresh | apply ms_t_select | apply ms_t_least_leaf)); (next => k_extra "zQ")))
  k_with "w k_all" => first | assumption | exact all_succ (by assumption) | exact all_succ2 (by assumption)
  k_with "w subscriptTail" => (k_here; (with_reducible apply it_tail); (next => k_asm); (next => k_extra "zT"); rotate_left; (next => with_unfolding_all rfl))
  k_with "w getItem ref int" => (k_here; (with_reducible apply it_get); (next => k_asm); (next => k_extra "zT"); (next => k_extra "zn"))
  k_with "w getMethod ref" => (k_here; (with_reducible apply it_getm); (next => k_asm); (next => k_extra "zT"))
  k_with "w call builtin:dict.get" => (k_here; (with_reducible apply it_get2); (next => k_asm); (next => k_extra "zT"); (next => k_extra "zn"))
  k_with "w setAttr ref" => (k_here; (with_reducible show wpAny _ _ (setAttr (Value.ref (AD.x (TS.A _ _))) _ (Value.int _ _)) _ _ _); ((with_reducible (first | apply ws_parent | apply ws_left | apply ws_top | apply ws_width | apply ws_height | apply ws_buffer | apply ws_start | apply ws_point | apply ws_hscroll | apply ws_use_time)); (next => k_extra "zP"); intro _ _ _ _ _ _; (try k_sweep)))
  k_with "w setAttr ref" => (k_here; (with_reducible show wpAny _ _ (setAttr (Value.ref (TS.x _)) _ (Value.int _ _)) _ _ _); ((with_reducible (first | apply ws_t_last | apply ws_t_clock | apply ws_t_root | apply ws_t_selected)); (next => k_extra "zX"); intro _ _ _ _ _ _; (try k_sweep)))
  k_with "w exec Raise some none" => (first | (exfalso; omega) | (k_here; (with_reducible show wpAny _ _ (exec (Stmt.Raise (some (Expr.Call (Expr.Name (Str.ofString "LispSignal") _) _ _ _)) none _) _) _ _ _); k_dflt (refine raise_K rfl ?_)))
  k_with "w call ref" => (k_here; k_dflt (refine exc_call (by k_asm) (by k_asm) (by k_asm) ?_); intro _ _ _ _ _ _; refine wpAny_call ?_; k_dflt ktr_enter)
  k_with "w setAttr ref" => (k_here; (with_reducible show wpAny _ _ (setAttr (Value.ref _) (Str.ofString "symbol") _) _ _ _); k_dflt (refine exc_store0 (by k_asm) (by k_asm) (by k_asm) (by assumption) (by exact (sig_facts _).2.2.2.1) (by exact lk_exc _ (.inl rfl)) ?_); intro _ _ _ _ _ _ _ _ _)
  k_with "w setAttr ref" => (k_here; (with_reducible show wpAny _ _ (setAttr (Value.ref _) (Str.ofString "data") _) _ _ _); k_dflt (refine exc_store1 (by k_asm) (by k_asm) (by k_asm) (by assumption) (by assumption) (by assumption) (by assumption) (by exact (sig_facts _).2.2.2.2.1) (by exact lk_exc _ (.inr rfl)) ?_ (by exact Within.cons _ _ Within.nil) (by (rw [sizeLine_eq]; decide))); intro _ _ _ _ _ _)
  k_with "w RaiseK" => (k_here; k_dflt (refine raiseK_intro (by k_asm) (by k_asm) (by k_asm) (by k_mem) ?_))
  k_with "w And" => ((with_reducible show Value.none = Value.none ∧ _); refine ⟨rfl, ?_⟩)
  k_with "zh" => first | exact rfl | assumption
  k_with "zp" => first | k_extra "zT" | exact trivial
  k_with "x exec Try" => (k_here; (with_reducible show wpAny _ _ (exec (Stmt.Try _ (_ :: _) _ [] _) _) _ _ _); refine wpAny_Try_except ?_)
  k_with "x getAttr ref" => (k_here; (with_reducible show wpAny _ _ (getAttr (Value.ref _) (Str.ofString "symbol") _) _ _ _); k_dflt (refine exc_read (by k_asm) (by k_asm) (by k_asm) (by k_mem) (by assumption) (by assumption) (by k_mem) (by assumption) (by assumption) (by rfl) ?_))
  k_with "x bind" => (k_here; (with_reducible show wpAny _ _ (do bindName (envX _ _ _ _ _ _) _ Value.none; unbindBehindTheSuite (envX _ _ _ _ _ _) _ _) _ _ _); k_dflt (refine name_goesX (by k_asm) (by k_asm) ?_); intro _ _ _ _)
  k_with "x FPostM" => (dsimp only [FPostM])
  k_with "x subscriptTail" => (k_here; (with_reducible show wpAny _ _ (subscriptTail _ _ (Value.ref _) (Value.int _ _)) _ _ _); k_extra "sub")
  trivial
theorem seg3 {w : World} {mean : ExcName → Option Value} {mg mb : Str → Option Value} {base : Heap} {L fa da dl : Addr} {cd : Value} {s : Shared} {Q : Flow → Shared → Prop} {E : Value → Shared → Prop} {wide high : Int} {tw : Tok} {u : Str → Option Value} {news : Led} {S : TS} {r : Int} {f : Fo} {n z : Nat} {rest : List Stmt}
    (env : Env) (he : envOfC (Str.ofString "law") lawSc L fa cd = env) (B : Below callerA base [] base) (X : (Mine.hd.heap_1 w.params).In base) (Tp : Top Mine.view (looseW Mine.view Mine.loose) mean mg mb base)
    (hE : PassesOwn (model PySem.Challenge.rw_np0059_01.row.prog w) (callerA.deeper env) env E) (hE2 : ∀ e, PassesOwnAt (model PySem.Challenge.rw_np0059_01.row.prog w) ((callerA.deeper env).mark (some (.ref e))) (callerA.deeper env) env E)
    (F : Fr base L s.heap (fun y => if y = Str.ofString "deck" then some (.ref da) else if y = Str.ofString "wide" then some (.int wide tw) else u y)) (N : News base L s.heap (news)) (H : LS w L wide high n z news S da dl r f) (hn : n ≤ 600) (hz : z ≤ 20)
    (K : ∀ h' tk' news' S' r' f' (u' : Str → Option Value), Fr base L h' (fun y => if y = Str.ofString "deck" then some (.ref da) else if y = Str.ofString "wide" then some (.int wide tw) else u' y) → News base L h' news' → LS w L wide high (n + 16) (z + 10) news' S' da dl r' f' → wpAny (model PySem.Challenge.rw_np0059_01.row.prog w) (callerA.deeper env) (execs rest env) Q E { s with heap := h', toks := tk' }) :
    wpAny (model PySem.Challenge.rw_np0059_01.row.prog w) (callerA.deeper env) (execs (lawS 3 :: rest) env) Q E s := by
  revert X
  k_fill
  intro X
  dsimp only [lawS, lawSc, lawPair, lawOf, PySem.Challenge.pw_np0059_01, List.getD, List.getElem?_cons_succ, List.getElem?_cons_zero, Option.getD, List.drop] at he ⊢
  refine shut ?_
  intro G9 hG9
  subst he
  have hT := H.tree
  have hF := H.full
  obtain ⟨o, hc, ho⟩ := H.cell
  refine hG9 ?_
  have hcl := hT.ex hc
  have hsz := H.size
  k_with "exec For Name Call cons nil" => refine stop ?_
  k_with "pyIter ref" => refine stop ?_
  k_with "call ref" => refine stop ?_
  k_steps
  refine go ?_
  k_here
  rename Fr _ _ _ _ => lF'
  with_unfolding_all refine' For_invVF lF' ?k1 ?k2 ?_ ?ks hE
  case k1 => exact rfl
  case k2 => exact rfl
  case ks => (intro _; with_unfolding_all rfl)
  have H3 := H
  have hx3 : S.x = S.x := rfl
  have hy3 : S.d = S.d := rfl
  have T3 := H3.tree
  obtain ⟨o3, hc3, ho3⟩ := H3.cell
  have hcl3 := T3.ex hc3
  rw [hx3] at ho3
  k_steps
  refine go ?_
  ktr_call 0 (H3.draw (by lia) 6 _ (by decide) (by decide))
  intro r' nw4 h4 tk4 F4 N4 P4
  obtain ⟨S4, H4, hs4, hk4, lp, tlp, rfl, lp0, lp1⟩ := P4
  have hx4 := hs4.x.trans hx3
  have hy4 := hs4.d.trans hy3
  clear hk4 H3 T3 hc3 hcl3 ho3 hx3 hy3 
  have T4 := H4.tree
  obtain ⟨o4, hc4, ho4⟩ := H4.cell
  have hcl4 := T4.ex hc4
  rw [hx4] at ho4
  (try dsimp only)
  k_steps
  refine go ?_
  rename Fr _ _ _ _ => lF'
  rename News _ _ _ _ => lN'
  rename IsRange _ _ _ _ _ _ _ _ => lR'
  with_unfolding_all refine' for_range (σ := Led × TS × Int × Fo) (n := lp.toNat) (fun c => c.1) [Str.ofString "found", Str.ofString "number", Str.ofString "axis"] (fun i c => LS w L wide high (n + 1 + 3 * i) (z + 2 * i) c.1 c.2.1 da dl c.2.2.1 c.2.2.2 ∧ c.2.1.x = S.x ∧ c.2.1.d = S.d) (nw4, S4, r, f) ?hh lR' ?hsm ?hn lF' lN' ?hp ?turn ?done
  case hh => rfl
  case hsm => exact rng_small _ (by lia) (by lia)
  case hn => exact rng_size _
  case hp => exact ⟨H4, hx4, hy4⟩
  case done =>
    clear lF' lN' lR'
    intro c u1 h5 tk5 hP F5 N5
    refine shut ?_
    intro G9 hG9
    obtain ⟨nw, S5, r5, f5⟩ := c
    obtain ⟨H5, hx5, hy5⟩ := hP
    refine hG9 ?_
    (try walk_at "SPost")
    exact K _ _ _ _ _ _ _ (fr_if F5 (if_name (by rfl) (if_name (by rfl) rfl))) N5 (H5.more (by lia) (by lia))
  case turn =>
    clear lF' lN' lR' H4 T4 hc4 hcl4 ho4 hx4 hy4
    intro i t I oi c u1 h4 tk4 hi4 hP hne F4 N4
    refine shut ?_
    intro G9 hG9
    obtain ⟨nw, S4, r4, f4⟩ := c
    obtain ⟨H4, hx4, hy4⟩ := hP
    refine hG9 ?_
    dsimp only at H4 hx4 hy4 hne N4
    replace F4 : Fr base L h4 _ := F4
    replace N4 : News base L h4 _ := N4
    refine shut ?_
    intro G9 hG9
    obtain ⟨S5, H5, hs5, hI5, hk5, e1, e2, e3⟩ := H4.keepN N4 hne
    have hx5 := hs5.x.trans hx4
    have hy5 := hs5.d.trans hy4
    clear hk5 hs5 H4 hx4 hy4
    have T5 := H5.tree
    obtain ⟨o5, hc5, ho5⟩ := H5.cell
    refine hG9 ?_
    have hcl5 := T5.ex hc5
    rw [hx5] at ho5
    k_steps
    refine go ?_
    have hF5 := H5.full
    have hz5 := H5.size
    have hl5 := hF5.lv_len
    have hp5 : 1 ≤ (Fo.lv S5.W r4 f4).length := List.length_pos_iff.mpr hF5.lv_ne
    (with_reducible show wpAny _ _ (call (Value.ref 196) _) _ _ _)
    ktr_call 0 (leaves_ok S5 _ hx5 _ (hF5.isLv (by lia)))
    intro r' nw6 h6 tk6 F6 N6 P6
    obtain ⟨lf, vf, zf, rfl, rfl, hif, hlf⟩ := P6
    obtain ⟨S6, H6, hs6, hlf6, hk6, g1, g2, g3⟩ := H5.keepN N6 (tbn_neAll hlf)
    have hx6 := hs6.x.trans hx5
    have hy6 := hs6.d.trans hy5
    have hI6 := hk6 _ hI5
    clear hk6 hI5 H5 T5 hc5 hcl5 ho5 hx5 hy5
    have T6 := H6.tree
    obtain ⟨o6, hc6, ho6⟩ := H6.cell
    have hcl6 := T6.ex hc6
    rw [hx6] at ho6
    (try dsimp only)
    k_steps
    refine go ?_
    ktr_call 0 (H6.draw (by lia) (((Fo.lv S5.W r4 f4).length : Nat) : Int) _ (by lia) (by lia))
    intro r' nw7 h7 tk7 F7 N7 P7
    obtain ⟨S7, H7, hs7, hk7, q, tq, rfl, q0, q1⟩ := P7
    have hx7 := hs7.x.trans hx6
    have hy7 := hs7.d.trans hy6
    have hlf7 := hk7 _ hlf6 g1
    have hI7 := hk7 _ hI6 e1
    clear hk7 H6 T6 hc6 hcl6 ho6 hx6 hy6 hlf6 hI6
    have T7 := H7.tree
    obtain ⟨o7, hc7, ho7⟩ := H7.cell
    have hcl7 := T7.ex hc7
    rw [hx7] at ho7
    (try dsimp only)
    have hml7 := T7.ex hlf7
    have hW7 : S7.W = S5.W := hs7.W.trans hs6.W
    k_with "sub" => (k_dflt (refine' item_at ?N ?m hif ?a ?b ?c ?_ ?s; (case N => k_asm); (case m => exact hml7); (case a => lia); (case b => lia); (case c => lia); (case s => with_unfolding_all rfl)); intro tn num i0 hi0)
    k_steps
    have lA : ∃ B : Addr, ∀ p ∈ nw7, p.1 < B := ⟨_, by assumption⟩
    clear lA
    rename ∀ p ∈ nw7, _ < _ => lA
    rename News _ _ _ _ => lN'
    rename Addr => la
    refine go ?_
    refine shut ?_
    intro G9 hG9
    obtain ⟨S8, H8, hs8, hla8, hk8, w1, w2, w3⟩ := H7.keepN lN' (fun p hp => Nat.ne_of_lt (lA p hp))
    have hx8 := hs8.x.trans hx7
    have hy8 := hs8.d.trans hy7
    have hI8 := hk8 _ hI7
    have hW8 : S8.W = S5.W := hs8.W.trans hW7
    clear hk8 hI7 hlf7 hml7 H7 T7 hc7 hcl7 ho7 hx7 hy7
    have T8 := H8.tree
    obtain ⟨o8, hc8, ho8⟩ := H8.cell
    refine hG9 ?_
    have hcl8 := T8.ex hc8
    rw [hx8] at ho8
    ktr_call 0 (H8.draw (by lia) 2 _ (by decide) (by decide))
    intro r' nw9 h9 tk9 F9 N9 P9
    obtain ⟨S9, H9, hs9, hk9, av, tav, rfl, av0, av1⟩ := P9
    have hx9 := hs9.x.trans hx8
    have hy9 := hs9.d.trans hy8
    have hla9 := hk9 _ hla8 w1
    have hI9 := hk9 _ hI8 e1
    clear hk9 H8 T8 hc8 hcl8 ho8 hx8 hy8 hla8 hI8
    have T9 := H9.tree
    obtain ⟨o9, hc9, ho9⟩ := H9.cell
    have hcl9 := T9.ex hc9
    rw [hx9] at ho9
    (try dsimp only)
    have hml9 := T9.ex hla9
    have hW9 : S9.W = S5.W := hs9.W.trans hW8
    k_with "sub" => (k_dflt (refine' item_at (ns := [1, 0]) ?N ?m (IntsAre.cons _ _ (IntsAre.cons _ _ .nil)) ?a ?b ?c ?_ ?s; (case N => k_asm); (case m => exact hml9); (case a => lia); (case b => (simp only [List.length_cons, List.length_nil]; lia)); (case c => decide); (case s => with_unfolding_all rfl)); intro tx ax j0 hj0)
    k_steps
    refine go ?_
    ktr_call 0 (H9.draw (by lia) 2 _ (by decide) (by decide))
    intro r' nw10 h10 tk10 F10 N10 P10
    obtain ⟨S10, H10, hs10, hk10, bv, tbv, rfl, bv0, bv1⟩ := P10
    have hx10 := hs10.x.trans hx9
    have hy10 := hs10.d.trans hy9
    have hI10 := hk10 _ hI9 e1
    clear hk10 H9 T9 hc9 hcl9 ho9 hx9 hy9 hI9
    have T10 := H10.tree
    obtain ⟨o10, hc10, ho10⟩ := H10.cell
    have hcl10 := T10.ex hc10
    rw [hx10] at ho10
    (try dsimp only)
    have hW10 : S10.W = S5.W := hs10.W.trans hW9
    k_steps
    refine go ?_
    have hF10 := H10.full
    have hz10 := H10.size
    have hd10 := H10.doms
    refine shut ?_
    intro G9 hG9
    obtain ⟨m1, m2, m3, m4⟩ := hF5.lv_all num (List.mem_of_getElem? hi0)
    refine hG9 ?_
    rw [← hW10] at m2
    have hax : ax = 0 ∨ ax = 1 := by
      match j0, hj0 with
      | 0, h => exact .inr (Option.some.inj h).symm
      | 1, h => exact .inl (Option.some.inj h).symm
    by_cases hsp : leastI ax ≤ sizeI ax (S10.W num) - halfI ax (S10.W num) ∧ leastI ax ≤ halfI ax (S10.W num)
    · ktr_call 0 (split_ok S10 _ hx10 num _ hF10 m1 m2 ax hax _ _ (by lia) (by lia) hsp.1 hsp.2)
      intro r' nw11 h11 tk11 F11 N11 P11
      obtain ⟨S11, r11, f11, mm, tm, T11, G11, hxx, hdd, hee, b1, b2, rfl⟩ := P11
      have H11 := H10.grow T11 G11 hxx hee b1 b2
      have hI11 : (I, oi) ∈ S11.ex := hee ▸ hI10
      (try dsimp only)
      k_steps
      refine fend_intro (off I nw11, { S11 with ex := off I S11.ex }, r11, f11) (by assumption) (by assumption) (T11.ex hI11) (fun p hp => off_sub p hp) (fun p hp => off_ne p hp) (by ksw_same) ⟨H11.without hI11 e1 e2 e3, hxx.trans hx10, hdd.trans hy10⟩
    · ktr_call 1 (split_raises S10 _ hx10 num _ hF10 m1 m2 ax hax _ _ (by lia) (by lia) hsp)
      intro e ed oD mA tkx g h11 tk11 F11 U11 R11 hO hsym
      (try dsimp only)
      k_dflt (refine' caught0X ?K ?F ?U ?R ?X ?T ?ex ?_ (hE := hE2 _))
      (case K => k_asm); (case F => exact F11); (case U => exact U11); (case R => exact R11); (case X => k_asm); (case T => k_asm); (case ex => k_is)
      intro h12 oe F12 N12 hP12 hd12
      (try dsimp only)
      k_steps
      refine fend_intro (off I nw10, { S10 with ex := off I S10.ex }, r4, f4) (by assumption) (by assumption) (.tail _ (.tail _ (T10.ex hI10))) (fun p hp => .tail _ (.tail _ (off_sub p hp))) (fun p hp => off_ne p hp) (by ksw_same) ⟨(H10.more (Nat.le_refl _) (Nat.le_add_right _ 2)).without hI10 e1 e2 e3, hx10, hy10⟩
end
section
theorem fresh_S04 : True := by
  w_top off
  k_with_none
  k_with "w k_mem" => (with_unfolding_all refine memIn ?_; ktr_member)
  k_with "w units_room" => ktr_units
  k_with "w k_room" => ktr_room
  k_with "zT" => first | assumption | ((refine TreeIn.mono (by assumption) ?_); repeat (first | exact sub_nil | refine sub_tail ?_))
  k_with "zn" => first | assumption | exact .head _ | exact .tail _ (by assumption)
  k_with "zA" => first | k_extra "zx" | exact upd_ne _ _ (by first | assumption | exact Ne.symm (by assumption))
  k_with "zx" => first | with_reducible rfl | assumption
  k_with "zP" => exact ⟨by k_asm, by k_asm, by k_asm, by k_extra "zT", by k_extra "zn", by k_extra "zA"⟩
  k_with "zQ" => exact ⟨by k_asm, by k_asm, by k_asm, by k_extra "zT", by k_extra "zx", by k_extra "zx"⟩
  k_with "zX" => exact ⟨by k_asm, by k_asm, by k_asm, by k_extra "zT", by k_extra "zx"⟩
  k_with "zC" => exact ⟨by k_asm, by k_asm, by k_asm, by k_asm, by k_asm⟩
  k_with "w ktr_room" => first | exact room1 (by assumption) rfl | exact room0 (by assumption) rfl | exact room2 (by assumption) rfl | ((simp +zetaDelta only [depth_under_make, depth_under_kw, depth_in1, depth_deeper, depth_caller, recursionLimit] at *); omega)
  k_with "w ktr_units" => first | exact room0 (by assumption) rfl | exact room1 (by assumption) rfl | (have zcL := cLine_is; (simp +zetaDelta only [units_in1, units_deeper, Around.mark_units, units_caller] at *); omega)
  k_with "zL" => ((try simp only [List.length_reverse, List.length_map, List.length_append, List.length_cons, List.length_nil]); omega)
  k_with "w call builtin:list.pop" => (k_here; k_dflt (refine pop_last (by k_asm) (by k_asm) (by k_upd) (by first | omega | assumption) ?_); intro _ _ _; (try k_sweep))
  k_with "w call builtin:list.extend" => (k_here; (with_reducible show wpAny _ _ (call (Value.builtin _) [Value.ref _, Value.ref _]) _ _ _); k_dflt (refine ext_ints (by k_asm) (by k_asm) (by k_mem) (by k_updF) (by l_ints) (by k_extra "zL") ?_); intro _ _ _ zN; (try dsimp only at zN); (try k_sweep))
  k_with "w setAttr ref" => (k_here; k_dflt (refine set_s (by k_asm) (by k_asm) (by k_asm) (by k_inst) (by rfl) (by k_is) (by k_is) (by k_is) (by k_is) (by k_get) (by k_put) (by k_updF) (by exact Nat.le_of_ble_eq_true rfl) ?_; k_whole); intro _ _ _ _ _; (try k_sweep))
  k_with "w call builtin:list.append" => (k_here; (with_reducible show wpAny _ _ (call (Value.builtin _) [Value.ref _, _]) _ _ _); k_dflt (refine app_any (by k_asm) (by k_asm) (by k_upd) (by first | omega | k_extra "zL") ?_); intro _ _ zN; (try dsimp only at zN); (try k_sweep))
  k_with "w execs cons" => (k_here; first | (refine execs_shut (s := ‹Shared›) ?_; intro _ _ _) | (refine execs_lit ?_; intro _ _ _) | (refine execs_shut0 ?_; intro _ _))
  k_with "w SPost" => first | refine spost_next (by assumption) ?_ | refine spost_ret (by assumption) ?_ | refine spost_cont (by assumption) ?_ | refine spost_brk (by assumption) ?_
  k_with "w CPost" => (refine cpost_of (by assumption) ?_)
  k_with "w WPost" => (dsimp only [WPost])
  k_with "w ksw_same" => (intro zz z3; (simp only [List.contains_cons, List.contains_nil, Bool.or_false, Bool.or_eq_false_iff, beq_eq_false_iff_ne, ne_eq] at z3); first | (simp [z3]; done) | (simp +zetaDelta [z3]; done))
  k_with "w FPost" => (dsimp only [FPost])
  k_with "w execs nil" => with_reducible refine wpAny_execs_nil ?_
  k_with "w call builtin:len" => (k_here; (with_reducible show wpAny _ _ (call (Value.builtin "len") [Value.ref _]) _ _ _); (refine len_ints (by k_asm) (by k_dflt k_mem) (by with_reducible assumption) (by k_extra "zL") ?_); (try simp only [List.length_map]))
  k_with "w eval Dict" => (k_here; k_dflt (refine kdn_str (by rfl) (by k_asm) (by first | k_asm | exact News.nil) (by exact Top.nolimit (by k_asm)) (by rfl) (by rfl) (by exact List.cons_ne_nil _ _) (by exact Nat.le_of_ble_eq_true rfl) ?_); intro zd zh zo zF zN zl zlo zhd; (try k_lt zl))
  k_with "w eval Constant int" => (with_reducible refine const_int_s ?_; intro _)
  k_with "w eval Constant str" => (with_reducible refine const_str_s ?_; intro _)
  k_with "w binaryOp Add int int" => (with_reducible refine add_int_s ?_; intro _)
  k_with "w binaryOp Sub int int" => (with_reducible refine sub_int_s ?_; intro _)
  k_with "w storeName" => (k_here; k_dflt (refine store_s (by k_asm) (by k_asm) ?_ rfl rfl; k_whole); intro _ _ _ _ _; (try k_sweep))
  k_with "w newTuple" => (k_here; kup_bare; k_dflt (refine tuple_s (by k_asm) (by k_asm) ?_ (by kmk_size)); intro _ _ _ _ zl; (try k_lt zl); (try k_sweep))
  k_with "w ktr_enter" => first | (refine enter_s (by k_extra "zC") rfl rfl (by first | assumption | exact rfl) (by k_is) (by k_is) (by ktr_room) (by first | exact BindsTo.of_eq rfl | exact binds_K (by k_in) rfl (by k_is) rfl rfl rfl) (by exact locs rfl) (by rfl) ?_ (by rfl) (by rfl) (by rfl) (by decide); k_whole; intro _ _ _ _ _ _ _ _ _ _ _ _; (try dsimp only); (try k_fold)) | (refine enterC_s (by k_extra "zC") rfl rfl (by first | assumption | exact rfl) (by k_is) (by k_is) (by ktr_room) (by first | exact BindsTo.of_eq rfl | exact binds_K (by k_in) rfl (by k_is) rfl rfl rfl) (by rfl) (by decide +kernel) ?_ (by rfl) (by rfl) (by rfl); k_whole; intro _ _ _ _ _ _ _ _ _ zN zY _ _ _ zl; (try k_lt zl); k_cells zY; (try simp only [List.cons_append, List.nil_append] at zN); (try dsimp only); (try k_fold))
  k_with "w getAttr ref" => (k_here; (with_reducible show wpAny _ _ (getAttr (Value.ref (AD.x (TS.A _ _))) _ _) _ _ _); first | ((with_reducible (first | apply rs_number | apply rs_sort | apply rs_parent | apply rs_left | apply rs_top | apply rs_width | apply rs_height)); (next => k_extra "zP"); intro _ _) | ((with_reducible (apply rs_children)); (next => k_extra "zP"); intro _) | ((with_reducible (first | apply rs_buffer | apply rs_start | apply rs_point | apply rs_hscroll)); (next => k_extra "zP"); intro _ _ _) | ((with_reducible (apply rs_earlier)); (next => k_extra "zP"); intro _ _ _ _))
  k_with "w getAttr ref" => (k_here; (with_reducible show wpAny _ _ (getAttr (Value.ref (TS.x _)) _ _) _ _ _); first | ((with_reducible (apply rs_t_windows)); (next => k_extra "zQ"); intro _) | ((with_reducible (first | apply rs_t_root | apply rs_t_selected | apply rs_t_last | apply rs_t_least_width | apply rs_t_least_height)); (next => k_extra "zQ"); intro _ _) | ((with_reducible (apply rs_t_clock)); (next => k_extra "zQ"); intro _ _ _))
  k_with "w getMethod ref" => (k_here; (with_reducible show wpAny _ _ (getMethod (Value.ref (AD.x (TS.A _ _))) _ _) _ _ _); ((with_reducible (first | apply ms_size | apply ms_set_size | apply ms_place | apply ms_shown | apply ms_show)); (next => k_extra "zP")))
  k_with "w getMethod ref" => (k_here; (with_reducible show wpAny _ _ (getMethod (Value.ref (TS.x _)) _ _) _ _ _); ((with_reducible (first | apply ms_t_window | apply ms_t_leaf | apply ms_t_touch | apply ms_t_fresh | apply ms_t_select | apply ms_t_least_leaf)); (next => k_extra "zQ")))
  k_with "w k_all" => first | assumption | exact all_succ (by assumption) | exact all_succ2 (by assumption)
  k_with "w subscriptTail" => (k_here; (with_reducible apply it_tail); (next => k_asm); (next => k_extra "zT"); rotate_left; (next => with_unfolding_all rfl))
  k_with "w getItem ref int" => (k_here; (with_reducible apply it_get); (next => k_asm); (next => k_extra "zT"); (next => k_extra "zn"))
  k_with "w getMethod ref" => (k_here; (with_reducible apply it_getm); (next => k_asm); (next => k_extra "zT"))
  k_with "w call builtin:dict.get" => (k_here; (with_reducible apply it_get2); (next => k_asm); (next => k_extra "zT"); (next => k_extra "zn"))
  k_with "w setAttr ref" => (k_here; (with_reducible show wpAny _ _ (setAttr (Value.ref (AD.x (TS.A _ _))) _ (Value.int _ _)) _ _ _); ((with_reducible (first | apply ws_parent | apply ws_left | apply ws_top | apply ws_width | apply ws_height | apply ws_buffer | apply ws_start | apply ws_point | apply ws_hscroll | apply ws_use_time)); (next => k_extra "zP"); intro _ _ _ _ _ _; (try k_sweep)))
  k_with "w setAttr ref" => (k_here; (with_reducible show wpAny _ _ (setAttr (Value.ref (TS.x _)) _ (Value.int _ _)) _ _ _); ((with_reducible (first | apply ws_t_last | apply ws_t_clock | apply ws_t_root | apply ws_t_selected)); (next => k_extra "zX"); intro _ _ _ _ _ _; (try k_sweep)))
  k_with "w exec Raise some none" => (first | (exfalso; omega) | (k_here; (with_reducible show wpAny _ _ (exec (Stmt.Raise (some (Expr.Call (Expr.Name (Str.ofString "LispSignal") _) _ _ _)) none _) _) _ _ _); k_dflt (refine raise_K rfl ?_)))
  k_with "w call ref" => (k_here; k_dflt (refine exc_call (by k_asm) (by k_asm) (by k_asm) ?_); intro _ _ _ _ _ _; refine wpAny_call ?_; k_dflt ktr_enter)
  k_with "w setAttr ref" => (k_here; (with_reducible show wpAny _ _ (setAttr (Value.ref _) (Str.ofString "symbol") _) _ _ _); k_dflt (refine exc_store0 (by k_asm) (by k_asm) (by k_asm) (by assumption) (by exact (sig_facts _).2.2.2.1) (by exact lk_exc _ (.inl rfl)) ?_); intro _ _ _ _ _ _ _ _ _)
  k_with "w setAttr ref" => (k_here; (with_reducible show wpAny _ _ (setAttr (Value.ref _) (Str.ofString "data") _) _ _ _); k_dflt (refine exc_store1 (by k_asm) (by k_asm) (by k_asm) (by assumption) (by assumption) (by assumption) (by assumption) (by exact (sig_facts _).2.2.2.2.1) (by exact lk_exc _ (.inr rfl)) ?_ (by exact Within.cons _ _ Within.nil) (by (rw [sizeLine_eq]; decide))); intro _ _ _ _ _ _)
  k_with "w RaiseK" => (k_here; k_dflt (refine raiseK_intro (by k_asm) (by k_asm) (by k_asm) (by k_mem) ?_))
  k_with "w And" => ((with_reducible show Value.none = Value.none ∧ _); refine ⟨rfl, ?_⟩)
  k_with "zh" => first | exact rfl | assumption
  k_with "zp" => first | k_extra "zT" | exact trivial
  k_with "x exec Try" => (k_here; (with_reducible show wpAny _ _ (exec (Stmt.Try _ (_ :: _) _ [] _) _) _ _ _); refine wpAny_Try_except ?_)
  k_with "x getAttr ref" => (k_here; (with_reducible show wpAny _ _ (getAttr (Value.ref _) (Str.ofString "symbol") _) _ _ _); k_dflt (refine exc_read (by k_asm) (by k_asm) (by k_asm) (by k_mem) (by assumption) (by assumption) (by k_mem) (by assumption) (by assumption) (by rfl) ?_))
  k_with "x bind" => (k_here; (with_reducible show wpAny _ _ (do bindName (envX _ _ _ _ _ _) _ Value.none; unbindBehindTheSuite (envX _ _ _ _ _ _) _ _) _ _ _); k_dflt (refine name_goesX (by k_asm) (by k_asm) ?_); intro _ _ _ _)
  k_with "x FPostM" => (dsimp only [FPostM])
  k_with "x subscriptTail" => (k_here; (with_reducible show wpAny _ _ (subscriptTail _ _ (Value.ref _) (Value.int _ _)) _ _ _); k_extra "sub")
  trivial
theorem seg4 {w : World} {mean : ExcName → Option Value} {mg mb : Str → Option Value} {base : Heap} {L fa da dl : Addr} {cd : Value} {s : Shared} {Q : Flow → Shared → Prop} {E : Value → Shared → Prop} {wide high : Int} {tw : Tok} {u : Str → Option Value} {news : Led} {S : TS} {r : Int} {f : Fo} {n z : Nat} {rest : List Stmt}
    (env : Env) (he : envOfC (Str.ofString "law") lawSc L fa cd = env) (B : Below callerA base [] base) (X : (Mine.hd.heap_1 w.params).In base) (Tp : Top Mine.view (looseW Mine.view Mine.loose) mean mg mb base)
    (hE : PassesOwn (model PySem.Challenge.rw_np0059_01.row.prog w) (callerA.deeper env) env E) (hE2 : ∀ e, PassesOwnAt (model PySem.Challenge.rw_np0059_01.row.prog w) ((callerA.deeper env).mark (some (.ref e))) (callerA.deeper env) env E)
    (F : Fr base L s.heap (fun y => if y = Str.ofString "deck" then some (.ref da) else if y = Str.ofString "wide" then some (.int wide tw) else u y)) (N : News base L s.heap news) (H : LS w L wide high n z news S da dl r f) (hn : n ≤ 600) (hz : z ≤ 20)
    (K : ∀ h' tk' nw S' (u' : Str → Option Value) (lf lr : Addr) vf zf vr zr (at' : Int) (ta : Tok) (i0 : Nat), Fr base L h' (fun y => if y = Str.ofString "deck" then some (.ref da) else if y = Str.ofString "found" then some (.ref lf) else if y = Str.ofString "at" then some (.int at' ta) else if y = Str.ofString "ring" then some (.ref lr) else if y = Str.ofString "wide" then some (.int wide tw) else u' y) → News base L h' ((lr, listOf vr.toArray zr) :: nw) → LS w L wide high (n + 1) z nw S' da dl r f → S'.W = S.W → (lf, listOf vf.toArray zf) ∈ S'.ex → IntsAre vf (Fo.lv S.W r f) → IntsAre vr (ringL (Fo.lv S.W r f) i0 (Fo.lv S.W r f).length) → (Fo.lv S.W r f)[i0]? = some at' → (∀ p ∈ nw, p.1 < lr) → wpAny (model PySem.Challenge.rw_np0059_01.row.prog w) (callerA.deeper env) (execs rest env) Q E { s with heap := h', toks := tk' }) :
    wpAny (model PySem.Challenge.rw_np0059_01.row.prog w) (callerA.deeper env) (execs (lawS 4 :: lawS 5 :: lawS 6 :: lawS 7 :: rest) env) Q E s := by
  revert X
  k_fill
  intro X
  dsimp only [lawS, lawSc, lawPair, lawOf, PySem.Challenge.pw_np0059_01, List.getD, List.getElem?_cons_succ, List.getElem?_cons_zero, Option.getD, List.drop] at he ⊢
  refine shut ?_
  intro G9 hG9
  subst he
  have hT := H.tree
  have hF := H.full
  obtain ⟨o, hc, ho⟩ := H.cell
  refine hG9 ?_
  have hcl := hT.ex hc
  have hnd := hF.lv_nodup
  have hne0 := hF.lv_ne
  have hsz := H.size
  have hlen := hF.lv_len
  have hpos : 1 ≤ (Fo.lv S.W r f).length := List.length_pos_iff.mpr hne0
  k_with "exec For Name Call cons nil" => refine stop ?_
  k_with "pyIter ref" => refine stop ?_
  k_with "call ref" => refine stop ?_
  have H3 := H
  have hs03 : Same1 S S := ⟨rfl, rfl, rfl, rfl, rfl⟩
  have T3 := H3.tree
  obtain ⟨o3, hc3, ho3⟩ := H3.cell
  have hcl3 := T3.ex hc3
  rw [hs03.x] at ho3
  have hx3 := hs03.x
  have hy3 := hs03.d
  k_steps
  refine go ?_
  (with_reducible show wpAny _ _ (call (Value.ref 196) _) _ _ _)
  ktr_call 0 (leaves_ok S _ rfl _ (hF.isLv (by lia)))
  intro r' nw4 h4 tk4 F4 N4 P4
  obtain ⟨lf, vf, zf, rfl, rfl, hif, hlf⟩ := P4
  obtain ⟨S4, H4, hs4, hlf4, hk4, e1, e2, e3⟩ := H3.keepN N4 (tbn_neAll hlf)
  have hs04 := hs03.trans hs4.one
  clear hs03 hk4 hs4 H3 T3 hc3 hcl3 ho3 hx3 hy3
  have T4 := H4.tree
  obtain ⟨o4, hc4, ho4⟩ := H4.cell
  have hcl4 := T4.ex hc4
  rw [hs04.x] at ho4
  have hx4 := hs04.x
  have hy4 := hs04.d
  (try dsimp only)
  k_steps
  refine go ?_
  ktr_call 0 (H4.draw (by lia) (((Fo.lv S.W r f).length : Nat) : Int) _ (by lia) (by lia))
  intro r' nw5 h5 tk5 F5 N5 P5
  obtain ⟨S5, H5, hs5, hk5, q, tq, rfl, q0, q1⟩ := P5
  have hs05 := hs04.trans hs5.one
  have hlf5 := hk5 _ hlf4 e1
  clear hs04 hk5 hs5 H4 T4 hc4 hcl4 ho4 hx4 hy4 hlf4
  have T5 := H5.tree
  obtain ⟨o5, hc5, ho5⟩ := H5.cell
  have hcl5 := T5.ex hc5
  rw [hs05.x] at ho5
  have hx5 := hs05.x
  have hy5 := hs05.d
  (try dsimp only)
  have hml5 := T5.ex hlf5
  k_with "sub" => (k_dflt (refine' item_at ?N ?m hif ?a ?b ?c ?_ ?s; (case N => k_asm); (case m => exact hml5); (case a => lia); (case b => lia); (case c => lia); (case s => with_unfolding_all rfl)); intro ta' at' i0 hi0)
  k_steps
  refine go ?_
  rename ∀ p ∈ nw5, _ < _ => lA
  rename_i lr z1 z2 z3 z4 z5 z6 z7 z8 z9
  k_here
  rename Fr _ _ _ _ => lF'
  with_unfolding_all refine' For_invVF lF' ?k1 ?k2 ?_ ?ks hE
  case k1 => exact rfl
  case k2 => exact rfl
  case ks => (intro _; with_unfolding_all rfl)
  k_steps
  refine go ?_
  rename Fr _ _ _ _ => lF'
  rename IsRange _ _ _ _ _ _ _ _ => lR'
  rename News _ _ _ _ => lN'
  have hneA : ∀ p ∈ nw5, p.1 ≠ lr := fun p hp => Nat.ne_of_lt (lA p hp)
  with_unfolding_all refine' for_range (σ := List Value × Nat) (n := ((((Fo.lv S.W r f).length : Nat) : Int) - 1).toNat) (fun c => (lr, listOf c.1.toArray c.2) :: nw5) [] (fun i c => IntsAre c.1 (ringL (Fo.lv S.W r f) i0 (i + 1))) ([.int at' ta'], 0) ?hh lR' ?hsm ?hn lF' lN' ?hp ?turn ?done
  case hh => rfl
  case hsm => exact rng_small _ (by lia) (by lia)
  case hn => exact rng_size _
  case hp => exact ring_zero hi0 ▸ (IntsAre.cons _ _ .nil : IntsAre [.int _ ta'] [_])
  case turn =>
    clear lF' lN' lR'
    intro i t I oi c u1 h6 tk6 hi6 hP hne F6 N6
    obtain ⟨vr, nr⟩ := c
    dsimp only at hP hne N6
    replace F6 : Fr base L h6 _ := F6
    replace N6 : News base L h6 _ := N6
    have hIw := neN (hne _ (.head _))
    have hP2 := hP
    rw [ringL_succ] at hP2
    have hlr := hP.length
    rw [ringL_len] at hlr
    obtain ⟨j1, j2⟩ := ring_idx hne0 i0 (i : Int)
    have CN := fun t1 => next_window_ok (w := w) (mean := mean) (mg := mg) (mb := mb) S5 _ hs05.x _ (hs05.W ▸ H5.full.isLv (by lia)) _ _ j1 hnd t1
    rw [ring_step hne0 hnd 1 j1] at CN
    k_with "sub" => (k_dflt (refine' item_last ?N ?m hP2 ?c ?_ ?s; (case N => k_asm); (case m => k_mem); (case c => rw [ringL_len]; lia); (case s => with_unfolding_all rfl)); intro td')
    k_with "call ref" =>
      ktr_call 0 (CN _)
      intro r' news' h' tk' F' N' P'
      obtain ⟨rfl, tk9, rfl⟩ := P'
      (try dsimp only)
    k_steps
    refine fend_intro (vr ++ [.int (ringAt (Fo.lv S.W r f) i0 ((i : Int) + 1)) tk9], nr + 1) (by assumption) (by assumption) (.head _) (fun p hp => .tail _ hp) (fun p hp => ?_) (by ksw_same) ?_
    · rcases List.mem_cons.mp hp with rfl | hp
      · exact hIw
      · exact hne _ (.tail _ hp)
    · rw [ringL_succ]
      exact hP.append (IntsAre.cons _ _ .nil)
  case done =>
    clear lF' lN' lR'
    intro c u1 h6 tk6 hP F6 N6
    obtain ⟨vr, nr⟩ := c
    dsimp only at hP N6
    replace F6 : Fr base L h6 _ := F6
    replace N6 : News base L h6 _ := N6
    rw [show ((((Fo.lv S.W r f).length : Nat) : Int) - 1).toNat + 1 = (Fo.lv S.W r f).length by lia] at hP
    (try walk_at "SPost")
    exact K _ _ _ _ _ _ _ _ _ _ _ _ _ _ (fr_if F6 (if_name (by rfl) (if_name (by rfl) (if_name (by rfl) (if_name (by rfl) (if_name (by rfl) rfl)))))) N6 H5 hs05.W hlf5 hif hP hi0 lA
end
section
theorem fresh_S08 : True := by
  w_top off
  k_with_none
  k_with "w k_mem" => (with_unfolding_all refine memIn ?_; ktr_member)
  k_with "w units_room" => ktr_units
  k_with "w k_room" => ktr_room
  k_with "zT" => first | assumption | ((refine TreeIn.mono (by assumption) ?_); repeat (first | exact sub_nil | refine sub_tail ?_))
  k_with "zn" => first | assumption | exact .head _ | exact .tail _ (by assumption)
  k_with "zA" => first | k_extra "zx" | exact upd_ne _ _ (by first | assumption | exact Ne.symm (by assumption))
  k_with "zx" => first | with_reducible rfl | assumption
  k_with "zP" => exact ⟨by k_asm, by k_asm, by k_asm, by k_extra "zT", by k_extra "zn", by k_extra "zA"⟩
  k_with "zQ" => exact ⟨by k_asm, by k_asm, by k_asm, by k_extra "zT", by k_extra "zx", by k_extra "zx"⟩
  k_with "zX" => exact ⟨by k_asm, by k_asm, by k_asm, by k_extra "zT", by k_extra "zx"⟩
  k_with "zC" => exact ⟨by k_asm, by k_asm, by k_asm, by k_asm, by k_asm⟩
  k_with "w ktr_room" => first | exact room1 (by assumption) rfl | exact room0 (by assumption) rfl | exact room2 (by assumption) rfl | ((simp +zetaDelta only [depth_under_make, depth_under_kw, depth_in1, depth_deeper, depth_caller, recursionLimit] at *); omega)
  k_with "w ktr_units" => first | exact room0 (by assumption) rfl | exact room1 (by assumption) rfl | (have zcL := cLine_is; (simp +zetaDelta only [units_in1, units_deeper, Around.mark_units, units_caller] at *); omega)
  k_with "zL" => ((try simp only [List.length_reverse, List.length_map, List.length_append, List.length_cons, List.length_nil]); omega)
  k_with "w call builtin:list.pop" => (k_here; k_dflt (refine pop_last (by k_asm) (by k_asm) (by k_upd) (by first | omega | assumption) ?_); intro _ _ _; (try k_sweep))
  k_with "w call builtin:list.extend" => (k_here; (with_reducible show wpAny _ _ (call (Value.builtin _) [Value.ref _, Value.ref _]) _ _ _); k_dflt (refine ext_ints (by k_asm) (by k_asm) (by k_mem) (by k_updF) (by l_ints) (by k_extra "zL") ?_); intro _ _ _ zN; (try dsimp only at zN); (try k_sweep))
  k_with "w setAttr ref" => (k_here; k_dflt (refine set_s (by k_asm) (by k_asm) (by k_asm) (by k_inst) (by rfl) (by k_is) (by k_is) (by k_is) (by k_is) (by k_get) (by k_put) (by k_updF) (by exact Nat.le_of_ble_eq_true rfl) ?_; k_whole); intro _ _ _ _ _; (try k_sweep))
  k_with "w call builtin:list.append" => (k_here; (with_reducible show wpAny _ _ (call (Value.builtin _) [Value.ref _, _]) _ _ _); k_dflt (refine app_any (by k_asm) (by k_asm) (by k_upd) (by first | omega | k_extra "zL") ?_); intro _ _ zN; (try dsimp only at zN); (try k_sweep))
  k_with "w execs cons" => (k_here; first | (refine execs_shut (s := ‹Shared›) ?_; intro _ _ _) | (refine execs_lit ?_; intro _ _ _) | (refine execs_shut0 ?_; intro _ _))
  k_with "w SPost" => first | refine spost_next (by assumption) ?_ | refine spost_ret (by assumption) ?_ | refine spost_cont (by assumption) ?_ | refine spost_brk (by assumption) ?_
  k_with "w CPost" => (refine cpost_of (by assumption) ?_)
  k_with "w WPost" => (dsimp only [WPost])
  k_with "w ksw_same" => (intro zz z3; (simp only [List.contains_cons, List.contains_nil, Bool.or_false, Bool.or_eq_false_iff, beq_eq_false_iff_ne, ne_eq] at z3); first | (simp [z3]; done) | (simp +zetaDelta [z3]; done))
  k_with "w FPost" => (dsimp only [FPost])
  k_with "w execs nil" => with_reducible refine wpAny_execs_nil ?_
  k_with "w call builtin:len" => (k_here; (with_reducible show wpAny _ _ (call (Value.builtin "len") [Value.ref _]) _ _ _); (refine len_ints (by k_asm) (by k_dflt k_mem) (by with_reducible assumption) (by k_extra "zL") ?_); (try simp only [List.length_map]))
  k_with "w eval Dict" => (k_here; k_dflt (refine kdn_str (by rfl) (by k_asm) (by first | k_asm | exact News.nil) (by exact Top.nolimit (by k_asm)) (by rfl) (by rfl) (by exact List.cons_ne_nil _ _) (by exact Nat.le_of_ble_eq_true rfl) ?_); intro zd zh zo zF zN zl zlo zhd; (try k_lt zl))
  k_with "w eval Constant int" => (with_reducible refine const_int_s ?_; intro _)
  k_with "w eval Constant str" => (with_reducible refine const_str_s ?_; intro _)
  k_with "w binaryOp Add int int" => (with_reducible refine add_int_s ?_; intro _)
  k_with "w binaryOp Sub int int" => (with_reducible refine sub_int_s ?_; intro _)
  k_with "w storeName" => (k_here; k_dflt (refine store_s (by k_asm) (by k_asm) ?_ rfl rfl; k_whole); intro _ _ _ _ _; (try k_sweep))
  k_with "w newTuple" => (k_here; kup_bare; k_dflt (refine tuple_s (by k_asm) (by k_asm) ?_ (by kmk_size)); intro _ _ _ _ zl; (try k_lt zl); (try k_sweep))
  k_with "w ktr_enter" => first | (refine enter_s (by k_extra "zC") rfl rfl (by first | assumption | exact rfl) (by k_is) (by k_is) (by ktr_room) (by first | exact BindsTo.of_eq rfl | exact binds_K (by k_in) rfl (by k_is) rfl rfl rfl) (by exact locs rfl) (by rfl) ?_ (by rfl) (by rfl) (by rfl) (by decide); k_whole; intro _ _ _ _ _ _ _ _ _ _ _ _; (try dsimp only); (try k_fold)) | (refine enterC_s (by k_extra "zC") rfl rfl (by first | assumption | exact rfl) (by k_is) (by k_is) (by ktr_room) (by first | exact BindsTo.of_eq rfl | exact binds_K (by k_in) rfl (by k_is) rfl rfl rfl) (by rfl) (by decide +kernel) ?_ (by rfl) (by rfl) (by rfl); k_whole; intro _ _ _ _ _ _ _ _ _ zN zY _ _ _ zl; (try k_lt zl); k_cells zY; (try simp only [List.cons_append, List.nil_append] at zN); (try dsimp only); (try k_fold))
  k_with "w getAttr ref" => (k_here; (with_reducible show wpAny _ _ (getAttr (Value.ref (AD.x (TS.A _ _))) _ _) _ _ _); first | ((with_reducible (first | apply rs_number | apply rs_sort | apply rs_parent | apply rs_left | apply rs_top | apply rs_width | apply rs_height)); (next => k_extra "zP"); intro _ _) | ((with_reducible (apply rs_children)); (next => k_extra "zP"); intro _) | ((with_reducible (first | apply rs_buffer | apply rs_start | apply rs_point | apply rs_hscroll)); (next => k_extra "zP"); intro _ _ _) | ((with_reducible (apply rs_earlier)); (next => k_extra "zP"); intro _ _ _ _))
  k_with "w getAttr ref" => (k_here; (with_reducible show wpAny _ _ (getAttr (Value.ref (TS.x _)) _ _) _ _ _); first | ((with_reducible (apply rs_t_windows)); (next => k_extra "zQ"); intro _) | ((with_reducible (first | apply rs_t_root | apply rs_t_selected | apply rs_t_last | apply rs_t_least_width | apply rs_t_least_height)); (next => k_extra "zQ"); intro _ _) | ((with_reducible (apply rs_t_clock)); (next => k_extra "zQ"); intro _ _ _))
  k_with "w getMethod ref" => (k_here; (with_reducible show wpAny _ _ (getMethod (Value.ref (AD.x (TS.A _ _))) _ _) _ _ _); ((with_reducible (first | apply ms_size | apply ms_set_size | apply ms_place | apply ms_shown | apply ms_show)); (next => k_extra "zP")))
  k_with "w getMethod ref" => (k_here; (with_reducible show wpAny _ _ (getMethod (Value.ref (TS.x _)) _ _) _ _ _); ((with_reducible (first | apply ms_t_window | apply ms_t_leaf | apply ms_t_touch | apply ms_t_fresh | apply ms_t_select | apply ms_t_least_leaf)); (next => k_extra "zQ")))
  k_with "w k_all" => first | assumption | exact all_succ (by assumption) | exact all_succ2 (by assumption)
  k_with "w subscriptTail" => (k_here; (with_reducible apply it_tail); (next => k_asm); (next => k_extra "zT"); rotate_left; (next => with_unfolding_all rfl))
  k_with "w getItem ref int" => (k_here; (with_reducible apply it_get); (next => k_asm); (next => k_extra "zT"); (next => k_extra "zn"))
  k_with "w getMethod ref" => (k_here; (with_reducible apply it_getm); (next => k_asm); (next => k_extra "zT"))
  k_with "w call builtin:dict.get" => (k_here; (with_reducible apply it_get2); (next => k_asm); (next => k_extra "zT"); (next => k_extra "zn"))
  k_with "w setAttr ref" => (k_here; (with_reducible show wpAny _ _ (setAttr (Value.ref (AD.x (TS.A _ _))) _ (Value.int _ _)) _ _ _); ((with_reducible (first | apply ws_parent | apply ws_left | apply ws_top | apply ws_width | apply ws_height | apply ws_buffer | apply ws_start | apply ws_point | apply ws_hscroll | apply ws_use_time)); (next => k_extra "zP"); intro _ _ _ _ _ _; (try k_sweep)))
  k_with "w setAttr ref" => (k_here; (with_reducible show wpAny _ _ (setAttr (Value.ref (TS.x _)) _ (Value.int _ _)) _ _ _); ((with_reducible (first | apply ws_t_last | apply ws_t_clock | apply ws_t_root | apply ws_t_selected)); (next => k_extra "zX"); intro _ _ _ _ _ _; (try k_sweep)))
  k_with "w exec Raise some none" => (first | (exfalso; omega) | (k_here; (with_reducible show wpAny _ _ (exec (Stmt.Raise (some (Expr.Call (Expr.Name (Str.ofString "LispSignal") _) _ _ _)) none _) _) _ _ _); k_dflt (refine raise_K rfl ?_)))
  k_with "w call ref" => (k_here; k_dflt (refine exc_call (by k_asm) (by k_asm) (by k_asm) ?_); intro _ _ _ _ _ _; refine wpAny_call ?_; k_dflt ktr_enter)
  k_with "w setAttr ref" => (k_here; (with_reducible show wpAny _ _ (setAttr (Value.ref _) (Str.ofString "symbol") _) _ _ _); k_dflt (refine exc_store0 (by k_asm) (by k_asm) (by k_asm) (by assumption) (by exact (sig_facts _).2.2.2.1) (by exact lk_exc _ (.inl rfl)) ?_); intro _ _ _ _ _ _ _ _ _)
  k_with "w setAttr ref" => (k_here; (with_reducible show wpAny _ _ (setAttr (Value.ref _) (Str.ofString "data") _) _ _ _); k_dflt (refine exc_store1 (by k_asm) (by k_asm) (by k_asm) (by assumption) (by assumption) (by assumption) (by assumption) (by exact (sig_facts _).2.2.2.2.1) (by exact lk_exc _ (.inr rfl)) ?_ (by exact Within.cons _ _ Within.nil) (by (rw [sizeLine_eq]; decide))); intro _ _ _ _ _ _)
  k_with "w RaiseK" => (k_here; k_dflt (refine raiseK_intro (by k_asm) (by k_asm) (by k_asm) (by k_mem) ?_))
  k_with "w And" => ((with_reducible show Value.none = Value.none ∧ _); refine ⟨rfl, ?_⟩)
  k_with "zh" => first | exact rfl | assumption
  k_with "zp" => first | k_extra "zT" | exact trivial
  k_with "x exec Try" => (k_here; (with_reducible show wpAny _ _ (exec (Stmt.Try _ (_ :: _) _ [] _) _) _ _ _); refine wpAny_Try_except ?_)
  k_with "x getAttr ref" => (k_here; (with_reducible show wpAny _ _ (getAttr (Value.ref _) (Str.ofString "symbol") _) _ _ _); k_dflt (refine exc_read (by k_asm) (by k_asm) (by k_asm) (by k_mem) (by assumption) (by assumption) (by k_mem) (by assumption) (by assumption) (by rfl) ?_))
  k_with "x bind" => (k_here; (with_reducible show wpAny _ _ (do bindName (envX _ _ _ _ _ _) _ Value.none; unbindBehindTheSuite (envX _ _ _ _ _ _) _ _) _ _ _); k_dflt (refine name_goesX (by k_asm) (by k_asm) ?_); intro _ _ _ _)
  k_with "x FPostM" => (dsimp only [FPostM])
  k_with "x subscriptTail" => (k_here; (with_reducible show wpAny _ _ (subscriptTail _ _ (Value.ref _) (Value.int _ _)) _ _ _); k_extra "sub")
  trivial
theorem seg8 {w : World} {mean : ExcName → Option Value} {mg mb : Str → Option Value} {base : Heap} {L fa da dl : Addr} {cd : Value} {s : Shared} {Q : Flow → Shared → Prop} {E : Value → Shared → Prop} {wide high : Int} {tw : Tok} {u : Str → Option Value} {news : Led} {S : TS} {r : Int} {f : Fo} {n z : Nat} {rest : List Stmt} {lf lr : Addr} {vf vr : List Value} {zf zr : Nat} {at' : Int} {ta : Tok} {i0 : Nat}
    (env : Env) (he : envOfC (Str.ofString "law") lawSc L fa cd = env) (B : Below callerA base [] base) (X : (Mine.hd.heap_1 w.params).In base) (Tp : Top Mine.view (looseW Mine.view Mine.loose) mean mg mb base)
    (F : Fr base L s.heap (fun y => if y = Str.ofString "deck" then some (.ref da) else if y = Str.ofString "found" then some (.ref lf) else if y = Str.ofString "at" then some (.int at' ta) else if y = Str.ofString "ring" then some (.ref lr) else if y = Str.ofString "wide" then some (.int wide tw) else u y)) (N : News base L s.heap ((lr, listOf vr.toArray zr) :: news)) (H : LS w L wide high n z news S da dl r f) (hz : z ≤ 20) (hlf : (lf, listOf vf.toArray zf) ∈ S.ex) (hif : IntsAre vf (Fo.lv S.W r f)) (hir : IntsAre vr (ringL (Fo.lv S.W r f) i0 (Fo.lv S.W r f).length)) (hi0 : (Fo.lv S.W r f)[i0]? = some at') (lA : ∀ p ∈ news, p.1 < lr)
    (K : ∀ h' tk' (u' : Str → Option Value), Fr base L h' (fun y => if y = Str.ofString "deck" then some (.ref da) else if y = Str.ofString "found" then some (.ref lf) else if y = Str.ofString "at" then some (.int at' ta) else if y = Str.ofString "wide" then some (.int wide tw) else u' y) → News base L h' news → wpAny (model PySem.Challenge.rw_np0059_01.row.prog w) (callerA.deeper env) (execs rest env) Q E { s with heap := h', toks := tk' }) :
    wpAny (model PySem.Challenge.rw_np0059_01.row.prog w) (callerA.deeper env) (execs (lawS 8 :: rest) env) Q E s := by
  revert X
  k_fill
  intro X
  dsimp only [lawS, lawSc, lawPair, lawOf, PySem.Challenge.pw_np0059_01, List.getD, List.getElem?_cons_succ, List.getElem?_cons_zero, Option.getD, List.drop] at he ⊢
  refine shut ?_
  intro G9 hG9
  subst he
  have hT := H.tree
  have hF := H.full
  obtain ⟨o, hc, ho⟩ := H.cell
  have hcl := hT.ex hc
  have hnd := hF.lv_nodup
  have hne0 := hF.lv_ne
  have hsz := H.size
  have hlen := hF.lv_len
  have hrl := ringL_len (Fo.lv S.W r f) i0 (Fo.lv S.W r f).length
  have hml := hT.ex hlf
  have hneA : ∀ p ∈ news, p.1 ≠ lr := fun p hp => Nat.ne_of_lt (lA p hp)
  obtain ⟨m, hm⟩ : ∃ m, (Fo.lv S.W r f).length = m + 1 := ⟨_, (Nat.succ_pred (fun h => hne0 (List.length_eq_zero_iff.mp h))).symm⟩
  obtain ⟨j1, j2⟩ := ring_idx hne0 i0 (m : Int)
  refine hG9 ?_
  have CN := fun t1 => next_window_ok (w := w) (mean := mean) (mg := mg) (mb := mb) S _ rfl _ (hF.isLv (by lia)) _ _ j1 hnd t1
  rw [ring_step hne0 hnd 1 j1, show ((m : Int) + 1) = (((Fo.lv S.W r f).length : Nat) : Int) by lia, ring_len hi0] at CN
  k_with "sub" => (k_dflt (refine' item_last ?N ?m hir2 ?c ?_ ?s; (case N => k_asm); (case m => k_mem); (case c => rw [ringL_len]; lia); (case s => with_unfolding_all rfl)); intro td')
  k_with "call ref" =>
    ktr_call 0 (CN _)
    intro r' news' h' tk' F' N' P'
    obtain ⟨rfl, tk9, rfl⟩ := P'
    (try dsimp only)
  k_steps
  rename News _ _ _ _ => lN'
  rename List.Pairwise _ _ => oA
  have hls := (lN' _ (List.Mem.tail _ (List.Mem.tail _ hml))).1
  with_unfolding_all refine' kso_sorted ?k1 lN' ⟨_, hls, rfl, _, rfl⟩ hif (by lia) ?_
  case k1 => k_asm
  intro D' v' n' c' h' F' N' l1 i' e' p' o' b'
  have hir2 := hir
  rw [hm, ringL_succ] at hir2
  have heq := sorted_eq (List.Perm.trans (by assumption) ((ring_perm hi0).trans p'.symm)) oA o'
  k_with "exec Return some" => (first | exact absurd heq (by assumption) | exact absurd rfl (by assumption))
  k_steps
  rename Fr _ _ _ _ => lF'
  rename News _ _ _ _ => lN'
  (try walk_at "SPost")
  exact K _ _ _ (fr_if lF' (if_name (by rfl) (if_name (by rfl) (if_name (by rfl) (if_name (by rfl) rfl))))) (News.sub lN' (sub_tail (sub_tail (sub_tail sub_nil))))
end
section
theorem fresh_S09 : True := by
  w_top off
  k_with_none
  k_with "w k_mem" => (with_unfolding_all refine memIn ?_; ktr_member)
  k_with "w units_room" => ktr_units
  k_with "w k_room" => ktr_room
  k_with "zT" => first | assumption | ((refine TreeIn.mono (by assumption) ?_); repeat (first | exact sub_nil | refine sub_tail ?_))
  k_with "zn" => first | assumption | exact .head _ | exact .tail _ (by assumption)
  k_with "zA" => first | k_extra "zx" | exact upd_ne _ _ (by first | assumption | exact Ne.symm (by assumption))
  k_with "zx" => first | with_reducible rfl | assumption
  k_with "zP" => exact ⟨by k_asm, by k_asm, by k_asm, by k_extra "zT", by k_extra "zn", by k_extra "zA"⟩
  k_with "zQ" => exact ⟨by k_asm, by k_asm, by k_asm, by k_extra "zT", by k_extra "zx", by k_extra "zx"⟩
  k_with "zX" => exact ⟨by k_asm, by k_asm, by k_asm, by k_extra "zT", by k_extra "zx"⟩
  k_with "zC" => exact ⟨by k_asm, by k_asm, by k_asm, by k_asm, by k_asm⟩
  k_with "w ktr_room" => first | exact room1 (by assumption) rfl | exact room0 (by assumption) rfl | exact room2 (by assumption) rfl | ((simp +zetaDelta only [depth_under_make, depth_under_kw, depth_in1, depth_deeper, depth_caller, recursionLimit] at *); omega)
  k_with "w ktr_units" => first | exact room0 (by assumption) rfl | exact room1 (by assumption) rfl | (have zcL := cLine_is; (simp +zetaDelta only [units_in1, units_deeper, Around.mark_units, units_caller] at *); omega)
  k_with "zL" => ((try simp only [List.length_reverse, List.length_map, List.length_append, List.length_cons, List.length_nil]); omega)
  k_with "w call builtin:list.pop" => (k_here; k_dflt (refine pop_last (by k_asm) (by k_asm) (by k_upd) (by first | omega | assumption) ?_); intro _ _ _; (try k_sweep))
  k_with "w call builtin:list.extend" => (k_here; (with_reducible show wpAny _ _ (call (Value.builtin _) [Value.ref _, Value.ref _]) _ _ _); k_dflt (refine ext_ints (by k_asm) (by k_asm) (by k_mem) (by k_updF) (by l_ints) (by k_extra "zL") ?_); intro _ _ _ zN; (try dsimp only at zN); (try k_sweep))
  k_with "w setAttr ref" => (k_here; k_dflt (refine set_s (by k_asm) (by k_asm) (by k_asm) (by k_inst) (by rfl) (by k_is) (by k_is) (by k_is) (by k_is) (by k_get) (by k_put) (by k_updF) (by exact Nat.le_of_ble_eq_true rfl) ?_; k_whole); intro _ _ _ _ _; (try k_sweep))
  k_with "w call builtin:list.append" => (k_here; (with_reducible show wpAny _ _ (call (Value.builtin _) [Value.ref _, _]) _ _ _); k_dflt (refine app_any (by k_asm) (by k_asm) (by k_upd) (by first | omega | k_extra "zL") ?_); intro _ _ zN; (try dsimp only at zN); (try k_sweep))
  k_with "w execs cons" => (k_here; first | (refine execs_shut (s := ‹Shared›) ?_; intro _ _ _) | (refine execs_lit ?_; intro _ _ _) | (refine execs_shut0 ?_; intro _ _))
  k_with "w SPost" => first | refine spost_next (by assumption) ?_ | refine spost_ret (by assumption) ?_ | refine spost_cont (by assumption) ?_ | refine spost_brk (by assumption) ?_
  k_with "w CPost" => (refine cpost_of (by assumption) ?_)
  k_with "w WPost" => (dsimp only [WPost])
  k_with "w ksw_same" => (intro zz z3; (simp only [List.contains_cons, List.contains_nil, Bool.or_false, Bool.or_eq_false_iff, beq_eq_false_iff_ne, ne_eq] at z3); first | (simp [z3]; done) | (simp +zetaDelta [z3]; done))
  k_with "w FPost" => (dsimp only [FPost])
  k_with "w execs nil" => with_reducible refine wpAny_execs_nil ?_
  k_with "w call builtin:len" => (k_here; (with_reducible show wpAny _ _ (call (Value.builtin "len") [Value.ref _]) _ _ _); (refine len_ints (by k_asm) (by k_dflt k_mem) (by with_reducible assumption) (by k_extra "zL") ?_); (try simp only [List.length_map]))
  k_with "w eval Dict" => (k_here; k_dflt (refine kdn_str (by rfl) (by k_asm) (by first | k_asm | exact News.nil) (by exact Top.nolimit (by k_asm)) (by rfl) (by rfl) (by exact List.cons_ne_nil _ _) (by exact Nat.le_of_ble_eq_true rfl) ?_); intro zd zh zo zF zN zl zlo zhd; (try k_lt zl))
  k_with "w eval Constant int" => (with_reducible refine const_int_s ?_; intro _)
  k_with "w eval Constant str" => (with_reducible refine const_str_s ?_; intro _)
  k_with "w binaryOp Add int int" => (with_reducible refine add_int_s ?_; intro _)
  k_with "w binaryOp Sub int int" => (with_reducible refine sub_int_s ?_; intro _)
  k_with "w storeName" => (k_here; k_dflt (refine store_s (by k_asm) (by k_asm) ?_ rfl rfl; k_whole); intro _ _ _ _ _; (try k_sweep))
  k_with "w newTuple" => (k_here; kup_bare; k_dflt (refine tuple_s (by k_asm) (by k_asm) ?_ (by kmk_size)); intro _ _ _ _ zl; (try k_lt zl); (try k_sweep))
  k_with "w ktr_enter" => first | (refine enter_s (by k_extra "zC") rfl rfl (by first | assumption | exact rfl) (by k_is) (by k_is) (by ktr_room) (by first | exact BindsTo.of_eq rfl | exact binds_K (by k_in) rfl (by k_is) rfl rfl rfl) (by exact locs rfl) (by rfl) ?_ (by rfl) (by rfl) (by rfl) (by decide); k_whole; intro _ _ _ _ _ _ _ _ _ _ _ _; (try dsimp only); (try k_fold)) | (refine enterC_s (by k_extra "zC") rfl rfl (by first | assumption | exact rfl) (by k_is) (by k_is) (by ktr_room) (by first | exact BindsTo.of_eq rfl | exact binds_K (by k_in) rfl (by k_is) rfl rfl rfl) (by rfl) (by decide +kernel) ?_ (by rfl) (by rfl) (by rfl); k_whole; intro _ _ _ _ _ _ _ _ _ zN zY _ _ _ zl; (try k_lt zl); k_cells zY; (try simp only [List.cons_append, List.nil_append] at zN); (try dsimp only); (try k_fold))
  k_with "w getAttr ref" => (k_here; (with_reducible show wpAny _ _ (getAttr (Value.ref (AD.x (TS.A _ _))) _ _) _ _ _); first | ((with_reducible (first | apply rs_number | apply rs_sort | apply rs_parent | apply rs_left | apply rs_top | apply rs_width | apply rs_height)); (next => k_extra "zP"); intro _ _) | ((with_reducible (apply rs_children)); (next => k_extra "zP"); intro _) | ((with_reducible (first | apply rs_buffer | apply rs_start | apply rs_point | apply rs_hscroll)); (next => k_extra "zP"); intro _ _ _) | ((with_reducible (apply rs_earlier)); (next => k_extra "zP"); intro _ _ _ _))
  k_with "w getAttr ref" => (k_here; (with_reducible show wpAny _ _ (getAttr (Value.ref (TS.x _)) _ _) _ _ _); first | ((with_reducible (apply rs_t_windows)); (next => k_extra "zQ"); intro _) | ((with_reducible (first | apply rs_t_root | apply rs_t_selected | apply rs_t_last | apply rs_t_least_width | apply rs_t_least_height)); (next => k_extra "zQ"); intro _ _) | ((with_reducible (apply rs_t_clock)); (next => k_extra "zQ"); intro _ _ _))
  k_with "w getMethod ref" => (k_here; (with_reducible show wpAny _ _ (getMethod (Value.ref (AD.x (TS.A _ _))) _ _) _ _ _); ((with_reducible (first | apply ms_size | apply ms_set_size | apply ms_place | apply ms_shown | apply ms_show)); (next => k_extra "zP")))
  k_with "w getMethod ref" => (k_here; (with_reducible show wpAny _ _ (getMethod (Value.ref (TS.x _)) _ _) _ _ _); ((with_reducible (first | apply ms_t_window | apply ms_t_leaf | apply ms_t_touch | apply ms_t_fresh | apply ms_t_select | apply ms_t_least_leaf)); (next => k_extra "zQ")))
  k_with "w k_all" => first | assumption | exact all_succ (by assumption) | exact all_succ2 (by assumption)
  k_with "w subscriptTail" => (k_here; (with_reducible apply it_tail); (next => k_asm); (next => k_extra "zT"); rotate_left; (next => with_unfolding_all rfl))
  k_with "w getItem ref int" => (k_here; (with_reducible apply it_get); (next => k_asm); (next => k_extra "zT"); (next => k_extra "zn"))
  k_with "w getMethod ref" => (k_here; (with_reducible apply it_getm); (next => k_asm); (next => k_extra "zT"))
  k_with "w call builtin:dict.get" => (k_here; (with_reducible apply it_get2); (next => k_asm); (next => k_extra "zT"); (next => k_extra "zn"))
  k_with "w setAttr ref" => (k_here; (with_reducible show wpAny _ _ (setAttr (Value.ref (AD.x (TS.A _ _))) _ (Value.int _ _)) _ _ _); ((with_reducible (first | apply ws_parent | apply ws_left | apply ws_top | apply ws_width | apply ws_height | apply ws_buffer | apply ws_start | apply ws_point | apply ws_hscroll | apply ws_use_time)); (next => k_extra "zP"); intro _ _ _ _ _ _; (try k_sweep)))
  k_with "w setAttr ref" => (k_here; (with_reducible show wpAny _ _ (setAttr (Value.ref (TS.x _)) _ (Value.int _ _)) _ _ _); ((with_reducible (first | apply ws_t_last | apply ws_t_clock | apply ws_t_root | apply ws_t_selected)); (next => k_extra "zX"); intro _ _ _ _ _ _; (try k_sweep)))
  k_with "w exec Raise some none" => (first | (exfalso; omega) | (k_here; (with_reducible show wpAny _ _ (exec (Stmt.Raise (some (Expr.Call (Expr.Name (Str.ofString "LispSignal") _) _ _ _)) none _) _) _ _ _); k_dflt (refine raise_K rfl ?_)))
  k_with "w call ref" => (k_here; k_dflt (refine exc_call (by k_asm) (by k_asm) (by k_asm) ?_); intro _ _ _ _ _ _; refine wpAny_call ?_; k_dflt ktr_enter)
  k_with "w setAttr ref" => (k_here; (with_reducible show wpAny _ _ (setAttr (Value.ref _) (Str.ofString "symbol") _) _ _ _); k_dflt (refine exc_store0 (by k_asm) (by k_asm) (by k_asm) (by assumption) (by exact (sig_facts _).2.2.2.1) (by exact lk_exc _ (.inl rfl)) ?_); intro _ _ _ _ _ _ _ _ _)
  k_with "w setAttr ref" => (k_here; (with_reducible show wpAny _ _ (setAttr (Value.ref _) (Str.ofString "data") _) _ _ _); k_dflt (refine exc_store1 (by k_asm) (by k_asm) (by k_asm) (by assumption) (by assumption) (by assumption) (by assumption) (by exact (sig_facts _).2.2.2.2.1) (by exact lk_exc _ (.inr rfl)) ?_ (by exact Within.cons _ _ Within.nil) (by (rw [sizeLine_eq]; decide))); intro _ _ _ _ _ _)
  k_with "w RaiseK" => (k_here; k_dflt (refine raiseK_intro (by k_asm) (by k_asm) (by k_asm) (by k_mem) ?_))
  k_with "w And" => ((with_reducible show Value.none = Value.none ∧ _); refine ⟨rfl, ?_⟩)
  k_with "zh" => first | exact rfl | assumption
  k_with "zp" => first | k_extra "zT" | exact trivial
  k_with "x exec Try" => (k_here; (with_reducible show wpAny _ _ (exec (Stmt.Try _ (_ :: _) _ [] _) _) _ _ _); refine wpAny_Try_except ?_)
  k_with "x getAttr ref" => (k_here; (with_reducible show wpAny _ _ (getAttr (Value.ref _) (Str.ofString "symbol") _) _ _ _); k_dflt (refine exc_read (by k_asm) (by k_asm) (by k_asm) (by k_mem) (by assumption) (by assumption) (by k_mem) (by assumption) (by assumption) (by rfl) ?_))
  k_with "x bind" => (k_here; (with_reducible show wpAny _ _ (do bindName (envX _ _ _ _ _ _) _ Value.none; unbindBehindTheSuite (envX _ _ _ _ _ _) _ _) _ _ _); k_dflt (refine name_goesX (by k_asm) (by k_asm) ?_); intro _ _ _ _)
  k_with "x FPostM" => (dsimp only [FPostM])
  k_with "x subscriptTail" => (k_here; (with_reducible show wpAny _ _ (subscriptTail _ _ (Value.ref _) (Value.int _ _)) _ _ _); k_extra "sub")
  trivial
theorem seg9 {w : World} {mean : ExcName → Option Value} {mg mb : Str → Option Value} {base : Heap} {L fa da dl : Addr} {cd : Value} {s : Shared} {Q : Flow → Shared → Prop} {E : Value → Shared → Prop} {wide high : Int} {tw : Tok} {u : Str → Option Value} {news : Led} {S : TS} {r : Int} {f : Fo} {n z : Nat} {rest : List Stmt} {lf : Addr} {vf : List Value} {zf : Nat} {at' : Int} {ta : Tok}
    (env : Env) (he : envOfC (Str.ofString "law") lawSc L fa cd = env) (B : Below callerA base [] base) (X : (Mine.hd.heap_1 w.params).In base) (Tp : Top Mine.view (looseW Mine.view Mine.loose) mean mg mb base)
    (F : Fr base L s.heap (fun y => if y = Str.ofString "deck" then some (.ref da) else if y = Str.ofString "found" then some (.ref lf) else if y = Str.ofString "at" then some (.int at' ta) else if y = Str.ofString "wide" then some (.int wide tw) else u y)) (N : News base L s.heap (news)) (H : LS w L wide high n z news S da dl r f) (hz : z ≤ 20) (hlf : (lf, listOf vf.toArray zf) ∈ S.ex) (hif : IntsAre vf (Fo.lv S.W r f))
    (K : ∀ h' tk' (u' : Str → Option Value), Fr base L h' (fun y => if y = Str.ofString "deck" then some (.ref da) else if y = Str.ofString "at" then some (.int at' ta) else if y = Str.ofString "wide" then some (.int wide tw) else u' y) → News base L h' news → wpAny (model PySem.Challenge.rw_np0059_01.row.prog w) (callerA.deeper env) (execs rest env) Q E { s with heap := h', toks := tk' }) :
    wpAny (model PySem.Challenge.rw_np0059_01.row.prog w) (callerA.deeper env) (execs (lawS 9 :: rest) env) Q E s := by
  revert X
  k_fill
  intro X
  dsimp only [lawS, lawSc, lawPair, lawOf, PySem.Challenge.pw_np0059_01, List.getD, List.getElem?_cons_succ, List.getElem?_cons_zero, Option.getD, List.drop] at he ⊢
  refine shut ?_
  intro G9 hG9
  subst he
  have hT := H.tree
  have hF := H.full
  obtain ⟨o, hc, ho⟩ := H.cell
  refine hG9 ?_
  have hcl := hT.ex hc
  have hnd := hF.lv_nodup
  have hne0 := hF.lv_ne
  have hsz := H.size
  have hlen := hF.lv_len
  have hml := hT.ex hlf
  k_with "call ref" => refine stop ?_
  k_with "eval ListComp" => refine stop ?_
  k_with "CompSrc" => refine stop ?_
  k_with "CompEnd" => refine stop ?_
  k_steps
  refine go ?_
  k_dflt (refine LCg.ListComp_U (F₀ := by k_asm) (by with_unfolding_all rfl) (by decide) (by rfl) (by decide) (by rfl) ?_)
  k_steps
  refine go ?_
  rename Fr _ _ _ _ => lF'
  rename News _ _ _ _ => lN'
  have hvl := hif.length
  k_dflt (refine LCg.CompSrc.ledger (by rfl) lF' lN' hml (by rw [sizeLine_eq]; simp only [List.size_toArray]; lia) (fun g => ?_))
  refine comp_all (n := vf.toArray.size) (fun i ys nw => nw = news ∧ IntsAre ys ((Fo.lv S.W r f).take i)) ?fin ?step _ 0 [] news (by lia) ⟨rfl, .nil⟩
  case step =>
    clear lF' lN'
    intro i ys nw v I oI C oC D m₂ h tk E' hi hInv hv hoC hm2 F2 N2 off3 hne3
    refine shut ?_
    intro G9 hG9
    obtain ⟨rfl, hys⟩ := hInv
    obtain ⟨x, tx, hx, rfl⟩ := ints_at hif (i := i) (by simpa using hv)
    obtain ⟨j1, j2⟩ := ring_idx hne0 i 1
    refine hG9 ?_
    have CN := fun t1 => next_window_ok (w := w) (mean := mean) (mg := mg) (mb := mb) S _ rfl _ (hF.isLv (by lia)) _ _ hx hnd t1
    have CP := fun t1 => previous_window_ok (w := w) (mean := mean) (mg := mg) (mb := mb) S _ rfl _ (hF.isLv (by lia)) _ _ j1 hnd t1
    rw [ring_step hne0 hnd (-1) j1, show ((1 : Int) + -1) = 0 from rfl, ring_zero hx] at CP
    generalize ringAt (Fo.lv S.W r f) i 1 = y at CN CP j1
    k_with "call ref" => refine stop ?_
    k_steps
    refine go ?_
    ktr_call 0 (CN _)
    intro r' nw7 h7 tk7 F7 N7 P7
    obtain ⟨rfl, tk9, rfl⟩ := P7
    (try dsimp only)
    k_steps
    refine go ?_
    ktr_call 0 (CP _)
    intro r' nw7 h7 tk7 F7 N7 P7
    obtain ⟨rfl, tk9, rfl⟩ := P7
    (try dsimp only)
    k_steps
    refine go ?_
    exact LCg.CompEnd.intro (by assumption) (by assumption) nw (fun p hp => hp) off3 (.inr ⟨_, hml, rfl, _, rfl⟩) ⟨rfl, by rw [take_step hx]; exact hys.append (IntsAre.cons _ _ .nil)⟩
  case fin =>
    clear lF' lN'
    rintro ys nw ⟨rfl, hys⟩
    rw [List.size_toArray, hvl, List.take_length] at hys
    k_with "neq" => refine stop ?_
    k_with "exec Return some" => exact absurd rfl (by assumption)
    k_steps
    refine go ?_
    rename News _ _ _ _ => lN'
    have q1 := (lN' _ (List.Mem.head _)).1
    have q2 := (lN' _ (List.Mem.tail _ hml)).1
    k_dflt (refine' ne_intsK (vs := ys) (us := vf) ⟨_, q1, rfl, _, rfl⟩ hys ⟨_, q2, rfl, _, rfl⟩ hif ?hu ?_; (case hu => ktr_units))
    rw [show (!decide (Fo.lv S.W r f = Fo.lv S.W r f)) = false by simp]
    k_steps
    rename Fr _ _ _ _ => lF'
    (try walk_at "SPost")
    exact K _ _ _ (fr_if lF' (if_name (by rfl) (if_name (by rfl) (if_name (by rfl) rfl)))) (News.sub lN' (sub_tail sub_nil))
end
section
theorem fresh_S10 : True := by
  w_top off
  k_with_none
  k_with "w k_mem" => (with_unfolding_all refine memIn ?_; ktr_member)
  k_with "w units_room" => ktr_units
  k_with "w k_room" => ktr_room
  k_with "zT" => first | assumption | ((refine TreeIn.mono (by assumption) ?_); repeat (first | exact sub_nil | refine sub_tail ?_))
  k_with "zn" => first | assumption | exact .head _ | exact .tail _ (by assumption)
  k_with "zA" => first | k_extra "zx" | exact upd_ne _ _ (by first | assumption | exact Ne.symm (by assumption))
  k_with "zx" => first | with_reducible rfl | assumption
  k_with "zP" => exact ⟨by k_asm, by k_asm, by k_asm, by k_extra "zT", by k_extra "zn", by k_extra "zA"⟩
  k_with "zQ" => exact ⟨by k_asm, by k_asm, by k_asm, by k_extra "zT", by k_extra "zx", by k_extra "zx"⟩
  k_with "zX" => exact ⟨by k_asm, by k_asm, by k_asm, by k_extra "zT", by k_extra "zx"⟩
  k_with "zC" => exact ⟨by k_asm, by k_asm, by k_asm, by k_asm, by k_asm⟩
  k_with "w ktr_room" => first | exact room1 (by assumption) rfl | exact room0 (by assumption) rfl | exact room2 (by assumption) rfl | ((simp +zetaDelta only [depth_under_make, depth_under_kw, depth_in1, depth_deeper, depth_caller, recursionLimit] at *); omega)
  k_with "w ktr_units" => first | exact room0 (by assumption) rfl | exact room1 (by assumption) rfl | (have zcL := cLine_is; (simp +zetaDelta only [units_in1, units_deeper, Around.mark_units, units_caller] at *); omega)
  k_with "zL" => ((try simp only [List.length_reverse, List.length_map, List.length_append, List.length_cons, List.length_nil]); omega)
  k_with "w call builtin:list.pop" => (k_here; k_dflt (refine pop_last (by k_asm) (by k_asm) (by k_upd) (by first | omega | assumption) ?_); intro _ _ _; (try k_sweep))
  k_with "w call builtin:list.extend" => (k_here; (with_reducible show wpAny _ _ (call (Value.builtin _) [Value.ref _, Value.ref _]) _ _ _); k_dflt (refine ext_ints (by k_asm) (by k_asm) (by k_mem) (by k_updF) (by l_ints) (by k_extra "zL") ?_); intro _ _ _ zN; (try dsimp only at zN); (try k_sweep))
  k_with "w setAttr ref" => (k_here; k_dflt (refine set_s (by k_asm) (by k_asm) (by k_asm) (by k_inst) (by rfl) (by k_is) (by k_is) (by k_is) (by k_is) (by k_get) (by k_put) (by k_updF) (by exact Nat.le_of_ble_eq_true rfl) ?_; k_whole); intro _ _ _ _ _; (try k_sweep))
  k_with "w call builtin:list.append" => (k_here; (with_reducible show wpAny _ _ (call (Value.builtin _) [Value.ref _, _]) _ _ _); k_dflt (refine app_any (by k_asm) (by k_asm) (by k_upd) (by first | omega | k_extra "zL") ?_); intro _ _ zN; (try dsimp only at zN); (try k_sweep))
  k_with "w execs cons" => (k_here; first | (refine execs_shut (s := ‹Shared›) ?_; intro _ _ _) | (refine execs_lit ?_; intro _ _ _) | (refine execs_shut0 ?_; intro _ _))
  k_with "w SPost" => first | refine spost_next (by assumption) ?_ | refine spost_ret (by assumption) ?_ | refine spost_cont (by assumption) ?_ | refine spost_brk (by assumption) ?_
  k_with "w CPost" => (refine cpost_of (by assumption) ?_)
  k_with "w WPost" => (dsimp only [WPost])
  k_with "w ksw_same" => (intro zz z3; (simp only [List.contains_cons, List.contains_nil, Bool.or_false, Bool.or_eq_false_iff, beq_eq_false_iff_ne, ne_eq] at z3); first | (simp [z3]; done) | (simp +zetaDelta [z3]; done))
  k_with "w FPost" => (dsimp only [FPost])
  k_with "w execs nil" => with_reducible refine wpAny_execs_nil ?_
  k_with "w call builtin:len" => (k_here; (with_reducible show wpAny _ _ (call (Value.builtin "len") [Value.ref _]) _ _ _); (refine len_ints (by k_asm) (by k_dflt k_mem) (by with_reducible assumption) (by k_extra "zL") ?_); (try simp only [List.length_map]))
  k_with "w eval Dict" => (k_here; k_dflt (refine kdn_str (by rfl) (by k_asm) (by first | k_asm | exact News.nil) (by exact Top.nolimit (by k_asm)) (by rfl) (by rfl) (by exact List.cons_ne_nil _ _) (by exact Nat.le_of_ble_eq_true rfl) ?_); intro zd zh zo zF zN zl zlo zhd; (try k_lt zl))
  k_with "w eval Constant int" => (with_reducible refine const_int_s ?_; intro _)
  k_with "w eval Constant str" => (with_reducible refine const_str_s ?_; intro _)
  k_with "w binaryOp Add int int" => (with_reducible refine add_int_s ?_; intro _)
  k_with "w binaryOp Sub int int" => (with_reducible refine sub_int_s ?_; intro _)
  k_with "w storeName" => (k_here; k_dflt (refine store_s (by k_asm) (by k_asm) ?_ rfl rfl; k_whole); intro _ _ _ _ _; (try k_sweep))
  k_with "w newTuple" => (k_here; kup_bare; k_dflt (refine tuple_s (by k_asm) (by k_asm) ?_ (by kmk_size)); intro _ _ _ _ zl; (try k_lt zl); (try k_sweep))
  k_with "w ktr_enter" => first | (refine enter_s (by k_extra "zC") rfl rfl (by first | assumption | exact rfl) (by k_is) (by k_is) (by ktr_room) (by first | exact BindsTo.of_eq rfl | exact binds_K (by k_in) rfl (by k_is) rfl rfl rfl) (by exact locs rfl) (by rfl) ?_ (by rfl) (by rfl) (by rfl) (by decide); k_whole; intro _ _ _ _ _ _ _ _ _ _ _ _; (try dsimp only); (try k_fold)) | (refine enterC_s (by k_extra "zC") rfl rfl (by first | assumption | exact rfl) (by k_is) (by k_is) (by ktr_room) (by first | exact BindsTo.of_eq rfl | exact binds_K (by k_in) rfl (by k_is) rfl rfl rfl) (by rfl) (by decide +kernel) ?_ (by rfl) (by rfl) (by rfl); k_whole; intro _ _ _ _ _ _ _ _ _ zN zY _ _ _ zl; (try k_lt zl); k_cells zY; (try simp only [List.cons_append, List.nil_append] at zN); (try dsimp only); (try k_fold))
  k_with "w getAttr ref" => (k_here; (with_reducible show wpAny _ _ (getAttr (Value.ref (AD.x (TS.A _ _))) _ _) _ _ _); first | ((with_reducible (first | apply rs_number | apply rs_sort | apply rs_parent | apply rs_left | apply rs_top | apply rs_width | apply rs_height)); (next => k_extra "zP"); intro _ _) | ((with_reducible (apply rs_children)); (next => k_extra "zP"); intro _) | ((with_reducible (first | apply rs_buffer | apply rs_start | apply rs_point | apply rs_hscroll)); (next => k_extra "zP"); intro _ _ _) | ((with_reducible (apply rs_earlier)); (next => k_extra "zP"); intro _ _ _ _))
  k_with "w getAttr ref" => (k_here; (with_reducible show wpAny _ _ (getAttr (Value.ref (TS.x _)) _ _) _ _ _); first | ((with_reducible (apply rs_t_windows)); (next => k_extra "zQ"); intro _) | ((with_reducible (first | apply rs_t_root | apply rs_t_selected | apply rs_t_last | apply rs_t_least_width | apply rs_t_least_height)); (next => k_extra "zQ"); intro _ _) | ((with_reducible (apply rs_t_clock)); (next => k_extra "zQ"); intro _ _ _))
  k_with "w getMethod ref" => (k_here; (with_reducible show wpAny _ _ (getMethod (Value.ref (AD.x (TS.A _ _))) _ _) _ _ _); ((with_reducible (first | apply ms_size | apply ms_set_size | apply ms_place | apply ms_shown | apply ms_show)); (next => k_extra "zP")))
  k_with "w getMethod ref" => (k_here; (with_reducible show wpAny _ _ (getMethod (Value.ref (TS.x _)) _ _) _ _ _); ((with_reducible (first | apply ms_t_window | apply ms_t_leaf | apply ms_t_touch | apply ms_t_fresh | apply ms_t_select | apply ms_t_least_leaf)); (next => k_extra "zQ")))
  k_with "w k_all" => first | assumption | exact all_succ (by assumption) | exact all_succ2 (by assumption)
  k_with "w subscriptTail" => (k_here; (with_reducible apply it_tail); (next => k_asm); (next => k_extra "zT"); rotate_left; (next => with_unfolding_all rfl))
  k_with "w getItem ref int" => (k_here; (with_reducible apply it_get); (next => k_asm); (next => k_extra "zT"); (next => k_extra "zn"))
  k_with "w getMethod ref" => (k_here; (with_reducible apply it_getm); (next => k_asm); (next => k_extra "zT"))
  k_with "w call builtin:dict.get" => (k_here; (with_reducible apply it_get2); (next => k_asm); (next => k_extra "zT"); (next => k_extra "zn"))
  k_with "w setAttr ref" => (k_here; (with_reducible show wpAny _ _ (setAttr (Value.ref (AD.x (TS.A _ _))) _ (Value.int _ _)) _ _ _); ((with_reducible (first | apply ws_parent | apply ws_left | apply ws_top | apply ws_width | apply ws_height | apply ws_buffer | apply ws_start | apply ws_point | apply ws_hscroll | apply ws_use_time)); (next => k_extra "zP"); intro _ _ _ _ _ _; (try k_sweep)))
  k_with "w setAttr ref" => (k_here; (with_reducible show wpAny _ _ (setAttr (Value.ref (TS.x _)) _ (Value.int _ _)) _ _ _); ((with_reducible (first | apply ws_t_last | apply ws_t_clock | apply ws_t_root | apply ws_t_selected)); (next => k_extra "zX"); intro _ _ _ _ _ _; (try k_sweep)))
  k_with "w exec Raise some none" => (first | (exfalso; omega) | (k_here; (with_reducible show wpAny _ _ (exec (Stmt.Raise (some (Expr.Call (Expr.Name (Str.ofString "LispSignal") _) _ _ _)) none _) _) _ _ _); k_dflt (refine raise_K rfl ?_)))
  k_with "w call ref" => (k_here; k_dflt (refine exc_call (by k_asm) (by k_asm) (by k_asm) ?_); intro _ _ _ _ _ _; refine wpAny_call ?_; k_dflt ktr_enter)
  k_with "w setAttr ref" => (k_here; (with_reducible show wpAny _ _ (setAttr (Value.ref _) (Str.ofString "symbol") _) _ _ _); k_dflt (refine exc_store0 (by k_asm) (by k_asm) (by k_asm) (by assumption) (by exact (sig_facts _).2.2.2.1) (by exact lk_exc _ (.inl rfl)) ?_); intro _ _ _ _ _ _ _ _ _)
  k_with "w setAttr ref" => (k_here; (with_reducible show wpAny _ _ (setAttr (Value.ref _) (Str.ofString "data") _) _ _ _); k_dflt (refine exc_store1 (by k_asm) (by k_asm) (by k_asm) (by assumption) (by assumption) (by assumption) (by assumption) (by exact (sig_facts _).2.2.2.2.1) (by exact lk_exc _ (.inr rfl)) ?_ (by exact Within.cons _ _ Within.nil) (by (rw [sizeLine_eq]; decide))); intro _ _ _ _ _ _)
  k_with "w RaiseK" => (k_here; k_dflt (refine raiseK_intro (by k_asm) (by k_asm) (by k_asm) (by k_mem) ?_))
  k_with "w And" => ((with_reducible show Value.none = Value.none ∧ _); refine ⟨rfl, ?_⟩)
  k_with "zh" => first | exact rfl | assumption
  k_with "zp" => first | k_extra "zT" | exact trivial
  k_with "x exec Try" => (k_here; (with_reducible show wpAny _ _ (exec (Stmt.Try _ (_ :: _) _ [] _) _) _ _ _); refine wpAny_Try_except ?_)
  k_with "x getAttr ref" => (k_here; (with_reducible show wpAny _ _ (getAttr (Value.ref _) (Str.ofString "symbol") _) _ _ _); k_dflt (refine exc_read (by k_asm) (by k_asm) (by k_asm) (by k_mem) (by assumption) (by assumption) (by k_mem) (by assumption) (by assumption) (by rfl) ?_))
  k_with "x bind" => (k_here; (with_reducible show wpAny _ _ (do bindName (envX _ _ _ _ _ _) _ Value.none; unbindBehindTheSuite (envX _ _ _ _ _ _) _ _) _ _ _); k_dflt (refine name_goesX (by k_asm) (by k_asm) ?_); intro _ _ _ _)
  k_with "x FPostM" => (dsimp only [FPostM])
  k_with "x subscriptTail" => (k_here; (with_reducible show wpAny _ _ (subscriptTail _ _ (Value.ref _) (Value.int _ _)) _ _ _); k_extra "sub")
  trivial
theorem seg10 {w : World} {mean : ExcName → Option Value} {mg mb : Str → Option Value} {base : Heap} {L fa da dl : Addr} {cd : Value} {s : Shared} {Q : Flow → Shared → Prop} {E : Value → Shared → Prop} {wide high : Int} {tw : Tok} {u : Str → Option Value} {news : Led} {S : TS} {r : Int} {f : Fo} {n z : Nat} {at' : Int} {ta : Tok} {rest : List Stmt}
    (env : Env) (he : envOfC (Str.ofString "law") lawSc L fa cd = env) (B : Below callerA base [] base) (X : (Mine.hd.heap_1 w.params).In base) (Tp : Top Mine.view (looseW Mine.view Mine.loose) mean mg mb base)
    (hE : PassesOwn (model PySem.Challenge.rw_np0059_01.row.prog w) (callerA.deeper env) env E) (hE2 : ∀ e, PassesOwnAt (model PySem.Challenge.rw_np0059_01.row.prog w) ((callerA.deeper env).mark (some (.ref e))) (callerA.deeper env) env E)
    (F : Fr base L s.heap (fun y => if y = Str.ofString "deck" then some (.ref da) else if y = Str.ofString "at" then some (.int at' ta) else if y = Str.ofString "wide" then some (.int wide tw) else u y)) (N : News base L s.heap news) (H : LS w L wide high n z news S da dl r f) (ha : at' ∈ Fo.lv S.W r f) (hn : n ≤ 600) (hz : z ≤ 20)
    (K : ∀ h' tk' news' S' (u' : Str → Option Value), Fr base L h' (fun y => if y = Str.ofString "deck" then some (.ref da) else if y = Str.ofString "at" then some (.int at' ta) else if y = Str.ofString "wide" then some (.int wide tw) else u' y) → News base L h' news' → LS w L wide high (n + 1) z news' S' da dl r f → S'.W = S.W → wpAny (model PySem.Challenge.rw_np0059_01.row.prog w) (callerA.deeper env) (execs rest env) Q E { s with heap := h', toks := tk' }) :
    wpAny (model PySem.Challenge.rw_np0059_01.row.prog w) (callerA.deeper env) (execs (lawS 10 :: lawS 11 :: lawS 12 :: lawS 13 :: lawS 14 :: rest) env) Q E s := by
  revert X
  k_fill
  intro X
  dsimp only [lawS, lawSc, lawPair, lawOf, PySem.Challenge.pw_np0059_01, List.getD, List.getElem?_cons_succ, List.getElem?_cons_zero, Option.getD, List.drop] at he ⊢
  refine shut ?_
  intro G9 hG9
  subst he
  have hT := H.tree
  have hF := H.full
  obtain ⟨o, hc, ho⟩ := H.cell
  have hcl := hT.ex hc
  have hq := hF.lv_all at' ha
  obtain ⟨i0, hi0⟩ := List.getElem?_of_mem ha
  refine hG9 ?_
  have hnd := hF.lv_nodup
  have hne0 := hF.lv_ne
  k_with "exec For Name Call cons nil" => refine stop ?_
  k_with "pyIter ref" => refine stop ?_
  k_with "call ref" => refine stop ?_
  k_with "exec Return some" => exact absurd rfl (by assumption)
  have H3 := H
  have hs03 : Same1 S S := ⟨rfl, rfl, rfl, rfl, rfl⟩
  have T3 := H3.tree
  obtain ⟨o3, hc3, ho3⟩ := H3.cell
  have hcl3 := T3.ex hc3
  rw [hs03.x] at ho3
  have hx3 := hs03.x
  have hy3 := hs03.d
  k_steps
  refine go ?_
  ktr_call 0 (H3.draw (by lia) 15 _ (by decide) (by decide))
  intro r' nw4 h4 tk4 F4 N4 P4
  obtain ⟨S4, H4, hs4, hk4, q, tq, rfl, q0, q1⟩ := P4
  have hs04 := hs03.trans hs4.one
  clear hs03 hk4 hs4 H3 T3 hc3 hcl3 ho3 hx3 hy3 
  have T4 := H4.tree
  obtain ⟨o4, hc4, ho4⟩ := H4.cell
  have hcl4 := T4.ex hc4
  rw [hs04.x] at ho4
  have hx4 := hs04.x
  have hy4 := hs04.d
  (try dsimp only)
  k_steps
  refine go ?_
  have hd4 : at' ∈ S4.dom := hs04.dom ▸ hq.2.2.1
  have hs4 : (S4.W at').sort = 0 := hs04.W ▸ hq.2.1
  (with_reducible show wpAny _ _ (call (Value.ref 147) _) _ _ _)
  ktr_call 0 (select_ok S4 _ hs04.x at' hd4 _ hs4)
  intro r' nw5 h5 tk5 F5 N5 P5
  obtain ⟨T5, rfl⟩ := P5
  obtain ⟨S5, H5, hs5, hsel5, hex5⟩ := H4.sel T5
  have hs05 := hs04.trans hs5
  have hL5 : Lv S5 (Fo.lv S.W r f) := hs05.W ▸ H5.full.isLv (by have := H5.size; lia)
  clear T5 hs04 hs5 hex5 H4 T4 hc4 hcl4 ho4 hd4 hs4
  have T5 := H5.tree
  obtain ⟨o5, hc5, ho5⟩ := H5.cell
  have hcl5 := T5.ex hc5
  rw [hs05.x] at ho5
  have hx5 := hs05.x
  have hy5 := hs05.d
  (try dsimp only)
  k_steps
  refine go ?_
  k_here
  rename Fr _ _ _ _ => lF'
  with_unfolding_all refine' For_invVF lF' ?k1 ?k2 ?_ ?ks hE
  case k1 => exact rfl
  case k2 => exact rfl
  case ks => (intro _; with_unfolding_all rfl)
  k_steps
  refine go ?_
  rename Fr _ _ _ _ => lF'
  rename IsRange _ _ _ _ _ _ _ _ => lR'
  rename News _ _ _ _ => lN'
  refine shut ?_
  intro G9 hG9
  obtain ⟨sg, hsg, hsg2⟩ : ∃ sg : Int, (0 < q - 7 → sg = 1) ∧ (¬ 0 < q - 7 → sg = -1) := ⟨if 0 < q - 7 then 1 else -1, fun h => if_pos h, fun h => if_neg h⟩
  refine hG9 ?_
  have habs : 0 ≤ (if q - 7 < 0 then -(q - 7) else q - 7) ∧ (if q - 7 < 0 then -(q - 7) else q - 7) ≤ 1000 := by split <;> lia
  with_unfolding_all refine' for_rangeK (σ := Int × Tok) (n := (if q - 7 < 0 then -(q - 7) else q - 7).toNat) (fun _ => nw5) [] [Str.ofString "due"] (fun c _ => some (.int c.1 c.2)) (fun i c => c.1 = ringAt (Fo.lv S.W r f) i0 (sg * i)) (at', ta) ?hh lR' ?hsm ?hn lF' lN' ?hp ?hk0 ?turn ?done
  case hh => rfl
  case hsm => exact rng_small _ habs.1 habs.2
  case hn => exact rng_size _
  case hp => (dsimp only; rw [Int.natCast_zero, Int.mul_zero, ring_zero hi0])
  case hk0 => (simp only [List.forall_mem_cons]; exact ⟨rfl, fun _ h => nomatch h⟩)
  case turn =>
    clear lF' lN' lR'
    intro i t I oi c u1 h6 tk6 hi6 hP hne F6 N6
    obtain ⟨dv, dt⟩ := c
    dsimp only at hP hne N6
    replace F6 : Fr base L h6 _ := F6
    replace N6 : News base L h6 _ := N6
    obtain ⟨j1, j2⟩ := ring_idx hne0 i0 (sg * (i : Int))
    rw [← hP] at j1
    have CN := fun t1 => next_window_ok (w := w) (mean := mean) (mg := mg) (mb := mb) S5 _ hs05.x _ hL5 dv _ j1 hnd t1
    have CP := fun t1 => previous_window_ok (w := w) (mean := mean) (mg := mg) (mb := mb) S5 _ hs05.x _ hL5 dv _ j1 hnd t1
    rw [hP] at j1
    rw [ring_step hne0 hnd 1 j1] at CN
    rw [ring_step hne0 hnd (-1) j1] at CP
    k_with "call ref" =>
      first
      | ktr_call 0 (CN _)
        intro r' news' h' tk' F' N' P'
        obtain ⟨rfl, tk9, rfl⟩ := P'
        (try dsimp only)
      | ktr_call 0 (CP _)
        intro r' news' h' tk' F' N' P'
        obtain ⟨rfl, tk9, rfl⟩ := P'
        (try dsimp only)
    k_steps
    · have es := hsg (by assumption)
      subst es
      refine fend_introM (ringAt (Fo.lv S.W r f) i0 (1 * (i : Int) + 1), tk9) (by assumption) (by assumption) (.head _) (fun p hp => .tail _ hp) hne ?_ ?_
      · intro z h3
        simp only [List.contains_cons, List.contains_nil, Bool.or_false, beq_eq_false_iff_ne, ne_eq] at h3
        by_cases hzd : z = Str.ofString "due" <;> first | (simp [mK, hzd, h3]; done) | (simp +zetaDelta [mK, hzd, h3]; done)
      · dsimp only; congr 1 <;> lia
    · have es := hsg2 (by assumption)
      subst es
      refine fend_introM (ringAt (Fo.lv S.W r f) i0 (-1 * (i : Int) + -1), tk9) (by assumption) (by assumption) (.head _) (fun p hp => .tail _ hp) hne ?_ ?_
      · intro z h3
        simp only [List.contains_cons, List.contains_nil, Bool.or_false, beq_eq_false_iff_ne, ne_eq] at h3
        by_cases hzd : z = Str.ofString "due" <;> first | (simp [mK, hzd, h3]; done) | (simp +zetaDelta [mK, hzd, h3]; done)
      · dsimp only; congr 1 <;> lia
  case done =>
    clear lF' lN' lR'
    intro c u1 h6 tk6 hP F6 N6
    obtain ⟨dv, dt⟩ := c
    dsimp only at hP N6
    replace F6 : Fr base L h6 _ := F6
    replace N6 : News base L h6 _ := N6
    have ed : sg * (((if q - 7 < 0 then -(q - 7) else q - 7).toNat : Nat) : Int) = q - 7 := by
      by_cases hc : 0 < q - 7
      · rw [hsg hc, if_neg (by lia)]; lia
      · rw [hsg2 hc]; split <;> lia
    rw [ed] at hP
    clear ed habs hsg hsg2
    have CO := fun t1 => other_window_ok (w := w) (mean := mean) (mg := mg) (mb := mb) S5 _ hs05.x _ hL5 at' hsel5 i0 hi0 hnd (q - 7) t1 (ring_mem hne0 i0 _)
    rw [← hP] at CO
    k_steps
    refine go ?_
    ktr_call 0 (CO _)
    intro r' nw7 h7 tk7 F7 N7 P7
    obtain ⟨T7, td7, rfl⟩ := P7
    obtain ⟨S7, H7, hs7, hsel7, hex7⟩ := H5.sel T7
    have hs07 := hs05.trans hs7
    clear T7 hs05 hs7 hex7 H5 T5 hc5 hcl5 ho5 hx5 hy5 hL5 CO hsel5
    have T7 := H7.tree
    obtain ⟨o7, hc7, ho7⟩ := H7.cell
    have hcl7 := T7.ex hc7
    rw [hs07.x] at ho7
    have hx7 := hs07.x
    have hy7 := hs07.d
    (try dsimp only)
    k_with "exec Return some" => (first | exact absurd rfl (by assumption) | exact absurd hsel7 (by assumption))
    k_steps
    rename Fr _ _ _ _ => lF'
    (try walk_at "SPost")
    exact K _ _ _ _ _ (fr_if lF' (if_name (by rfl) (if_name (by rfl) (if_name (by rfl) rfl)))) N7 H7 hs07.W
end
section
theorem fresh_S15 : True := by
  w_top off
  k_with_none
  k_with "w k_mem" => (with_unfolding_all refine memIn ?_; ktr_member)
  k_with "w units_room" => ktr_units
  k_with "w k_room" => ktr_room
  k_with "zT" => first | assumption | ((refine TreeIn.mono (by assumption) ?_); repeat (first | exact sub_nil | refine sub_tail ?_))
  k_with "zn" => first | assumption | exact .head _ | exact .tail _ (by assumption)
  k_with "zA" => first | k_extra "zx" | exact upd_ne _ _ (by first | assumption | exact Ne.symm (by assumption))
  k_with "zx" => first | with_reducible rfl | assumption
  k_with "zP" => exact ⟨by k_asm, by k_asm, by k_asm, by k_extra "zT", by k_extra "zn", by k_extra "zA"⟩
  k_with "zQ" => exact ⟨by k_asm, by k_asm, by k_asm, by k_extra "zT", by k_extra "zx", by k_extra "zx"⟩
  k_with "zX" => exact ⟨by k_asm, by k_asm, by k_asm, by k_extra "zT", by k_extra "zx"⟩
  k_with "zC" => exact ⟨by k_asm, by k_asm, by k_asm, by k_asm, by k_asm⟩
  k_with "w ktr_room" => first | exact room1 (by assumption) rfl | exact room0 (by assumption) rfl | exact room2 (by assumption) rfl | ((simp +zetaDelta only [depth_under_make, depth_under_kw, depth_in1, depth_deeper, depth_caller, recursionLimit] at *); omega)
  k_with "w ktr_units" => first | exact room0 (by assumption) rfl | exact room1 (by assumption) rfl | (have zcL := cLine_is; (simp +zetaDelta only [units_in1, units_deeper, Around.mark_units, units_caller] at *); omega)
  k_with "zL" => ((try simp only [List.length_reverse, List.length_map, List.length_append, List.length_cons, List.length_nil]); omega)
  k_with "w call builtin:list.pop" => (k_here; k_dflt (refine pop_last (by k_asm) (by k_asm) (by k_upd) (by first | omega | assumption) ?_); intro _ _ _; (try k_sweep))
  k_with "w call builtin:list.extend" => (k_here; (with_reducible show wpAny _ _ (call (Value.builtin _) [Value.ref _, Value.ref _]) _ _ _); k_dflt (refine ext_ints (by k_asm) (by k_asm) (by k_mem) (by k_updF) (by l_ints) (by k_extra "zL") ?_); intro _ _ _ zN; (try dsimp only at zN); (try k_sweep))
  k_with "w setAttr ref" => (k_here; k_dflt (refine set_s (by k_asm) (by k_asm) (by k_asm) (by k_inst) (by rfl) (by k_is) (by k_is) (by k_is) (by k_is) (by k_get) (by k_put) (by k_updF) (by exact Nat.le_of_ble_eq_true rfl) ?_; k_whole); intro _ _ _ _ _; (try k_sweep))
  k_with "w call builtin:list.append" => (k_here; (with_reducible show wpAny _ _ (call (Value.builtin _) [Value.ref _, _]) _ _ _); k_dflt (refine app_any (by k_asm) (by k_asm) (by k_upd) (by first | omega | k_extra "zL") ?_); intro _ _ zN; (try dsimp only at zN); (try k_sweep))
  k_with "w execs cons" => (k_here; first | (refine execs_shut (s := ‹Shared›) ?_; intro _ _ _) | (refine execs_lit ?_; intro _ _ _) | (refine execs_shut0 ?_; intro _ _))
  k_with "w SPost" => first | refine spost_next (by assumption) ?_ | refine spost_ret (by assumption) ?_ | refine spost_cont (by assumption) ?_ | refine spost_brk (by assumption) ?_
  k_with "w CPost" => (refine cpost_of (by assumption) ?_)
  k_with "w WPost" => (dsimp only [WPost])
  k_with "w ksw_same" => (intro zz z3; (simp only [List.contains_cons, List.contains_nil, Bool.or_false, Bool.or_eq_false_iff, beq_eq_false_iff_ne, ne_eq] at z3); first | (simp [z3]; done) | (simp +zetaDelta [z3]; done))
  k_with "w FPost" => (dsimp only [FPost])
  k_with "w execs nil" => with_reducible refine wpAny_execs_nil ?_
  k_with "w call builtin:len" => (k_here; (with_reducible show wpAny _ _ (call (Value.builtin "len") [Value.ref _]) _ _ _); (refine len_ints (by k_asm) (by k_dflt k_mem) (by with_reducible assumption) (by k_extra "zL") ?_); (try simp only [List.length_map]))
  k_with "w eval Dict" => (k_here; k_dflt (refine kdn_str (by rfl) (by k_asm) (by first | k_asm | exact News.nil) (by exact Top.nolimit (by k_asm)) (by rfl) (by rfl) (by exact List.cons_ne_nil _ _) (by exact Nat.le_of_ble_eq_true rfl) ?_); intro zd zh zo zF zN zl zlo zhd; (try k_lt zl))
  k_with "w eval Constant int" => (with_reducible refine const_int_s ?_; intro _)
  k_with "w eval Constant str" => (with_reducible refine const_str_s ?_; intro _)
  k_with "w binaryOp Add int int" => (with_reducible refine add_int_s ?_; intro _)
  k_with "w binaryOp Sub int int" => (with_reducible refine sub_int_s ?_; intro _)
  k_with "w storeName" => (k_here; k_dflt (refine store_s (by k_asm) (by k_asm) ?_ rfl rfl; k_whole); intro _ _ _ _ _; (try k_sweep))
  k_with "w newTuple" => (k_here; kup_bare; k_dflt (refine tuple_s (by k_asm) (by k_asm) ?_ (by kmk_size)); intro _ _ _ _ zl; (try k_lt zl); (try k_sweep))
  k_with "w ktr_enter" => first | (refine enter_s (by k_extra "zC") rfl rfl (by first | assumption | exact rfl) (by k_is) (by k_is) (by ktr_room) (by first | exact BindsTo.of_eq rfl | exact binds_K (by k_in) rfl (by k_is) rfl rfl rfl) (by exact locs rfl) (by rfl) ?_ (by rfl) (by rfl) (by rfl) (by decide); k_whole; intro _ _ _ _ _ _ _ _ _ _ _ _; (try dsimp only); (try k_fold)) | (refine enterC_s (by k_extra "zC") rfl rfl (by first | assumption | exact rfl) (by k_is) (by k_is) (by ktr_room) (by first | exact BindsTo.of_eq rfl | exact binds_K (by k_in) rfl (by k_is) rfl rfl rfl) (by rfl) (by decide +kernel) ?_ (by rfl) (by rfl) (by rfl); k_whole; intro _ _ _ _ _ _ _ _ _ zN zY _ _ _ zl; (try k_lt zl); k_cells zY; (try simp only [List.cons_append, List.nil_append] at zN); (try dsimp only); (try k_fold))
  k_with "w getAttr ref" => (k_here; (with_reducible show wpAny _ _ (getAttr (Value.ref (AD.x (TS.A _ _))) _ _) _ _ _); first | ((with_reducible (first | apply rs_number | apply rs_sort | apply rs_parent | apply rs_left | apply rs_top | apply rs_width | apply rs_height)); (next => k_extra "zP"); intro _ _) | ((with_reducible (apply rs_children)); (next => k_extra "zP"); intro _) | ((with_reducible (first | apply rs_buffer | apply rs_start | apply rs_point | apply rs_hscroll)); (next => k_extra "zP"); intro _ _ _) | ((with_reducible (apply rs_earlier)); (next => k_extra "zP"); intro _ _ _ _))
  k_with "w getAttr ref" => (k_here; (with_reducible show wpAny _ _ (getAttr (Value.ref (TS.x _)) _ _) _ _ _); first | ((with_reducible (apply rs_t_windows)); (next => k_extra "zQ"); intro _) | ((with_reducible (first | apply rs_t_root | apply rs_t_selected | apply rs_t_last | apply rs_t_least_width | apply rs_t_least_height)); (next => k_extra "zQ"); intro _ _) | ((with_reducible (apply rs_t_clock)); (next => k_extra "zQ"); intro _ _ _))
  k_with "w getMethod ref" => (k_here; (with_reducible show wpAny _ _ (getMethod (Value.ref (AD.x (TS.A _ _))) _ _) _ _ _); ((with_reducible (first | apply ms_size | apply ms_set_size | apply ms_place | apply ms_shown | apply ms_show)); (next => k_extra "zP")))
  k_with "w getMethod ref" => (k_here; (with_reducible show wpAny _ _ (getMethod (Value.ref (TS.x _)) _ _) _ _ _); ((with_reducible (first | apply ms_t_window | apply ms_t_leaf | apply ms_t_touch | apply ms_t_fresh | apply ms_t_select | apply ms_t_least_leaf)); (next => k_extra "zQ")))
  k_with "w k_all" => first | assumption | exact all_succ (by assumption) | exact all_succ2 (by assumption)
  k_with "w subscriptTail" => (k_here; (with_reducible apply it_tail); (next => k_asm); (next => k_extra "zT"); rotate_left; (next => with_unfolding_all rfl))
  k_with "w getItem ref int" => (k_here; (with_reducible apply it_get); (next => k_asm); (next => k_extra "zT"); (next => k_extra "zn"))
  k_with "w getMethod ref" => (k_here; (with_reducible apply it_getm); (next => k_asm); (next => k_extra "zT"))
  k_with "w call builtin:dict.get" => (k_here; (with_reducible apply it_get2); (next => k_asm); (next => k_extra "zT"); (next => k_extra "zn"))
  k_with "w setAttr ref" => (k_here; (with_reducible show wpAny _ _ (setAttr (Value.ref (AD.x (TS.A _ _))) _ (Value.int _ _)) _ _ _); ((with_reducible (first | apply ws_parent | apply ws_left | apply ws_top | apply ws_width | apply ws_height | apply ws_buffer | apply ws_start | apply ws_point | apply ws_hscroll | apply ws_use_time)); (next => k_extra "zP"); intro _ _ _ _ _ _; (try k_sweep)))
  k_with "w setAttr ref" => (k_here; (with_reducible show wpAny _ _ (setAttr (Value.ref (TS.x _)) _ (Value.int _ _)) _ _ _); ((with_reducible (first | apply ws_t_last | apply ws_t_clock | apply ws_t_root | apply ws_t_selected)); (next => k_extra "zX"); intro _ _ _ _ _ _; (try k_sweep)))
  k_with "w exec Raise some none" => (first | (exfalso; omega) | (k_here; (with_reducible show wpAny _ _ (exec (Stmt.Raise (some (Expr.Call (Expr.Name (Str.ofString "LispSignal") _) _ _ _)) none _) _) _ _ _); k_dflt (refine raise_K rfl ?_)))
  k_with "w call ref" => (k_here; k_dflt (refine exc_call (by k_asm) (by k_asm) (by k_asm) ?_); intro _ _ _ _ _ _; refine wpAny_call ?_; k_dflt ktr_enter)
  k_with "w setAttr ref" => (k_here; (with_reducible show wpAny _ _ (setAttr (Value.ref _) (Str.ofString "symbol") _) _ _ _); k_dflt (refine exc_store0 (by k_asm) (by k_asm) (by k_asm) (by assumption) (by exact (sig_facts _).2.2.2.1) (by exact lk_exc _ (.inl rfl)) ?_); intro _ _ _ _ _ _ _ _ _)
  k_with "w setAttr ref" => (k_here; (with_reducible show wpAny _ _ (setAttr (Value.ref _) (Str.ofString "data") _) _ _ _); k_dflt (refine exc_store1 (by k_asm) (by k_asm) (by k_asm) (by assumption) (by assumption) (by assumption) (by assumption) (by exact (sig_facts _).2.2.2.2.1) (by exact lk_exc _ (.inr rfl)) ?_ (by exact Within.cons _ _ Within.nil) (by (rw [sizeLine_eq]; decide))); intro _ _ _ _ _ _)
  k_with "w RaiseK" => (k_here; k_dflt (refine raiseK_intro (by k_asm) (by k_asm) (by k_asm) (by k_mem) ?_))
  k_with "w And" => ((with_reducible show Value.none = Value.none ∧ _); refine ⟨rfl, ?_⟩)
  k_with "zh" => first | exact rfl | assumption
  k_with "zp" => first | k_extra "zT" | exact trivial
  k_with "x exec Try" => (k_here; (with_reducible show wpAny _ _ (exec (Stmt.Try _ (_ :: _) _ [] _) _) _ _ _); refine wpAny_Try_except ?_)
  k_with "x getAttr ref" => (k_here; (with_reducible show wpAny _ _ (getAttr (Value.ref _) (Str.ofString "symbol") _) _ _ _); k_dflt (refine exc_read (by k_asm) (by k_asm) (by k_asm) (by k_mem) (by assumption) (by assumption) (by k_mem) (by assumption) (by assumption) (by rfl) ?_))
  k_with "x bind" => (k_here; (with_reducible show wpAny _ _ (do bindName (envX _ _ _ _ _ _) _ Value.none; unbindBehindTheSuite (envX _ _ _ _ _ _) _ _) _ _ _); k_dflt (refine name_goesX (by k_asm) (by k_asm) ?_); intro _ _ _ _)
  k_with "x FPostM" => (dsimp only [FPostM])
  k_with "x subscriptTail" => (k_here; (with_reducible show wpAny _ _ (subscriptTail _ _ (Value.ref _) (Value.int _ _)) _ _ _); k_extra "sub")
  trivial
theorem seg15 {w : World} {mean : ExcName → Option Value} {mg mb : Str → Option Value} {base : Heap} {L fa da dl : Addr} {cd : Value} {s : Shared} {Q : Flow → Shared → Prop} {E : Value → Shared → Prop} {wide high : Int} {tw : Tok} {u : Str → Option Value} {news : Led} {S : TS} {r : Int} {f : Fo} {n z : Nat} {at' : Int} {ta : Tok} {rest : List Stmt}
    (env : Env) (he : envOfC (Str.ofString "law") lawSc L fa cd = env) (B : Below callerA base [] base) (X : (Mine.hd.heap_1 w.params).In base) (Tp : Top Mine.view (looseW Mine.view Mine.loose) mean mg mb base)
    (hE : PassesOwn (model PySem.Challenge.rw_np0059_01.row.prog w) (callerA.deeper env) env E) (hE2 : ∀ e, PassesOwnAt (model PySem.Challenge.rw_np0059_01.row.prog w) ((callerA.deeper env).mark (some (.ref e))) (callerA.deeper env) env E)
    (F : Fr base L s.heap (fun y => if y = Str.ofString "deck" then some (.ref da) else if y = Str.ofString "at" then some (.int at' ta) else if y = Str.ofString "wide" then some (.int wide tw) else u y)) (N : News base L s.heap news) (H : LS w L wide high n z news S da dl r f) (ha : at' ∈ Fo.lv S.W r f) (hn : n ≤ 600) (hz : z ≤ 20)
    (K : ∀ h' tk' news' S' (u' : Str → Option Value), Fr base L h' (fun y => if y = Str.ofString "deck" then some (.ref da) else if y = Str.ofString "at" then some (.int at' ta) else if y = Str.ofString "wide" then some (.int wide tw) else u' y) → News base L h' news' → LS w L wide high (n + 8) z news' S' da dl r f → S'.W = S.W → wpAny (model PySem.Challenge.rw_np0059_01.row.prog w) (callerA.deeper env) (execs rest env) Q E { s with heap := h', toks := tk' }) :
    wpAny (model PySem.Challenge.rw_np0059_01.row.prog w) (callerA.deeper env) (execs (lawS 15 :: rest) env) Q E s := by
  revert X
  k_fill
  intro X
  dsimp only [lawS, lawSc, lawPair, lawOf, PySem.Challenge.pw_np0059_01, List.getD, List.getElem?_cons_succ, List.getElem?_cons_zero, Option.getD, List.drop] at he ⊢
  refine shut ?_
  intro G9 hG9
  subst he
  have hT := H.tree
  have hF := H.full
  obtain ⟨o, hc, ho⟩ := H.cell
  refine hG9 ?_
  have hcl := hT.ex hc
  have hq := hF.lv_all at' ha
  k_with "exec For Name Call cons nil" => refine stop ?_
  k_with "pyIter ref" => refine stop ?_
  k_with "call ref" => refine stop ?_
  k_with "exec Return some" => exact absurd rfl (by assumption)
  k_steps
  refine go ?_
  k_here
  rename Fr _ _ _ _ => lF'
  with_unfolding_all refine' For_invVF lF' ?k1 ?k2 ?_ ?ks hE
  case k1 => exact rfl
  case k2 => exact rfl
  case ks => (intro _; with_unfolding_all rfl)
  k_steps
  refine go ?_
  rename Fr _ _ _ _ => lF'
  rename News _ _ _ _ => lN'
  rename IsRange _ _ _ _ _ _ _ _ => lR'
  with_unfolding_all refine' for_range (σ := Led × TS) (n := 4) (fun c => c.1) [Str.ofString "column", Str.ofString "row"] (fun i c => LS w L wide high (n + 2 * i) z c.1 c.2 da dl r f ∧ Same1 S c.2) (news, S) ?hh lR' ?hsm ?hn lF' lN' ?hp ?turn ?done
  case hh => rfl
  case hsm => decide
  case hn => decide
  case hp => exact ⟨H, ⟨rfl, rfl, rfl, rfl, rfl⟩⟩
  case done =>
    clear lF' lN' lR'
    intro c u1 h2 tk2 hP F2 N2
    obtain ⟨nw, S2⟩ := c
    obtain ⟨H2, hs2⟩ := hP
    (try walk_at "SPost")
    exact K _ _ _ _ _ (fr_if F2 (if_name (by rfl) (if_name (by rfl) (if_name (by rfl) rfl)))) N2 H2 hs2.W
  case turn =>
    clear lF' lN' lR'
    intro i t I oi c u1 h2 tk2 hi4 hP hne F2 N2
    obtain ⟨nw, S2⟩ := c
    obtain ⟨H2, hs2⟩ := hP
    dsimp only at H2 hs2 hne N2
    replace F2 : Fr base L h2 _ := F2
    replace N2 : News base L h2 _ := N2
    refine shut ?_
    intro G9 hG9
    obtain ⟨S3, H3, hs3, hI3, hk3, e1, e2, e3⟩ := H2.keepN N2 hne
    have hs03 := hs2.trans hs3.one
    clear hk3 hs3 hs2 H2
    have T3 := H3.tree
    obtain ⟨o3, hc3, ho3⟩ := H3.cell
    refine hG9 ?_
    have hcl3 := T3.ex hc3
    rw [hs03.x] at ho3
    have hx3 := hs03.x
    have hy3 := hs03.d
    k_steps
    refine go ?_
    ktr_call 0 (H3.draw (by lia) 90 _ (by decide) (by decide))
    intro r' nw4 h4 tk4 F4 N4 P4
    obtain ⟨S4, H4, hs4, hk4, q, tq, rfl, q0, q1⟩ := P4
    have hs04 := hs03.trans hs4.one
    have hI4 := hk4 _ hI3 e1
    clear hs03 hk4 hs4 H3 T3 hc3 hcl3 ho3 hx3 hy3 hI3
    have T4 := H4.tree
    obtain ⟨o4, hc4, ho4⟩ := H4.cell
    have hcl4 := T4.ex hc4
    rw [hs04.x] at ho4
    have hx4 := hs04.x
    have hy4 := hs04.d
    (try dsimp only)
    k_steps
    refine go ?_
    ktr_call 0 (H4.draw (by lia) 60 _ (by decide) (by decide))
    intro r' nw5 h5 tk5 F5 N5 P5
    obtain ⟨S5, H5, hs5, hk5, p, tp, rfl, p0, p1⟩ := P5
    have hs05 := hs04.trans hs5.one
    have hI5 := hk5 _ hI4 e1
    clear hs04 hk5 hs5 H4 T4 hc4 hcl4 ho4 hx4 hy4 hI4
    have T5 := H5.tree
    obtain ⟨o5, hc5, ho5⟩ := H5.cell
    have hcl5 := T5.ex hc5
    rw [hs05.x] at ho5
    have hx5 := hs05.x
    have hy5 := hs05.d
    (try dsimp only)
    have hL5 : Lv S5 (Fo.lv S.W r f) := hs05.W ▸ H5.full.isLv (by have := H5.size; lia)
    have CA := fun t1 t2 => window_at_ok (w := w) (mean := mean) (mg := mg) (mb := mb) S5 _ hs05.x _ hL5 (q - 4) (p - 4) t1 t2
    have CC := fun t1 t2 => law_cell_ok (w := w) (mean := mean) (mg := mg) (mb := mb) S5 _ hs05.x _ hL5 (q - 4) (p - 4) t1 t2
    rw [hs05.W, cell_same (hF.one _ _)] at CC
    rw [hs05.W] at CA
    k_steps
    refine go ?_
    ktr_call 0 (CA _ _)
    intro r' nw6 h6 tk6 F6 N6 P6
    obtain ⟨rfl, tb, rfl⟩ := P6
    (try dsimp only)
    k_steps
    refine go ?_
    ktr_call 0 (CC _ _)
    intro r' nw6 h6 tk6 F6 N6 P6
    obtain ⟨rfl, td, rfl⟩ := P6
    clear CA CC
    (try dsimp only)
    k_steps
    refine fend_intro (off I nw5, { S5 with ex := off I S5.ex }) (by assumption) (by assumption) (.tail _ (T5.ex hI5)) (fun p hp => .tail _ (off_sub p hp)) (fun p hp => off_ne p hp) (by ksw_same) ⟨H5.without hI5 e1 e2 e3, ⟨hs05.x, hs05.d, hs05.root, hs05.dom, hs05.W⟩⟩
end
section
theorem fresh_S16 : True := by
  w_top off
  k_with_none
  k_with "w k_mem" => (with_unfolding_all refine memIn ?_; ktr_member)
  k_with "w units_room" => ktr_units
  k_with "w k_room" => ktr_room
  k_with "zT" => first | assumption | ((refine TreeIn.mono (by assumption) ?_); repeat (first | exact sub_nil | refine sub_tail ?_))
  k_with "zn" => first | assumption | exact .head _ | exact .tail _ (by assumption)
  k_with "zA" => first | k_extra "zx" | exact upd_ne _ _ (by first | assumption | exact Ne.symm (by assumption))
  k_with "zx" => first | with_reducible rfl | assumption
  k_with "zP" => exact ⟨by k_asm, by k_asm, by k_asm, by k_extra "zT", by k_extra "zn", by k_extra "zA"⟩
  k_with "zQ" => exact ⟨by k_asm, by k_asm, by k_asm, by k_extra "zT", by k_extra "zx", by k_extra "zx"⟩
  k_with "zX" => exact ⟨by k_asm, by k_asm, by k_asm, by k_extra "zT", by k_extra "zx"⟩
  k_with "zC" => exact ⟨by k_asm, by k_asm, by k_asm, by k_asm, by k_asm⟩
  k_with "w ktr_room" => first | exact room1 (by assumption) rfl | exact room0 (by assumption) rfl | exact room2 (by assumption) rfl | ((simp +zetaDelta only [depth_under_make, depth_under_kw, depth_in1, depth_deeper, depth_caller, recursionLimit] at *); omega)
  k_with "w ktr_units" => first | exact room0 (by assumption) rfl | exact room1 (by assumption) rfl | (have zcL := cLine_is; (simp +zetaDelta only [units_in1, units_deeper, Around.mark_units, units_caller] at *); omega)
  k_with "zL" => ((try simp only [List.length_reverse, List.length_map, List.length_append, List.length_cons, List.length_nil]); omega)
  k_with "w call builtin:list.pop" => (k_here; k_dflt (refine pop_last (by k_asm) (by k_asm) (by k_upd) (by first | omega | assumption) ?_); intro _ _ _; (try k_sweep))
  k_with "w call builtin:list.extend" => (k_here; (with_reducible show wpAny _ _ (call (Value.builtin _) [Value.ref _, Value.ref _]) _ _ _); k_dflt (refine ext_ints (by k_asm) (by k_asm) (by k_mem) (by k_updF) (by l_ints) (by k_extra "zL") ?_); intro _ _ _ zN; (try dsimp only at zN); (try k_sweep))
  k_with "w setAttr ref" => (k_here; k_dflt (refine set_s (by k_asm) (by k_asm) (by k_asm) (by k_inst) (by rfl) (by k_is) (by k_is) (by k_is) (by k_is) (by k_get) (by k_put) (by k_updF) (by exact Nat.le_of_ble_eq_true rfl) ?_; k_whole); intro _ _ _ _ _; (try k_sweep))
  k_with "w call builtin:list.append" => (k_here; (with_reducible show wpAny _ _ (call (Value.builtin _) [Value.ref _, _]) _ _ _); k_dflt (refine app_any (by k_asm) (by k_asm) (by k_upd) (by first | omega | k_extra "zL") ?_); intro _ _ zN; (try dsimp only at zN); (try k_sweep))
  k_with "w execs cons" => (k_here; first | (refine execs_shut (s := ‹Shared›) ?_; intro _ _ _) | (refine execs_lit ?_; intro _ _ _) | (refine execs_shut0 ?_; intro _ _))
  k_with "w SPost" => first | refine spost_next (by assumption) ?_ | refine spost_ret (by assumption) ?_ | refine spost_cont (by assumption) ?_ | refine spost_brk (by assumption) ?_
  k_with "w CPost" => (refine cpost_of (by assumption) ?_)
  k_with "w WPost" => (dsimp only [WPost])
  k_with "w ksw_same" => (intro zz z3; (simp only [List.contains_cons, List.contains_nil, Bool.or_false, Bool.or_eq_false_iff, beq_eq_false_iff_ne, ne_eq] at z3); first | (simp [z3]; done) | (simp +zetaDelta [z3]; done))
  k_with "w FPost" => (dsimp only [FPost])
  k_with "w execs nil" => with_reducible refine wpAny_execs_nil ?_
  k_with "w call builtin:len" => (k_here; (with_reducible show wpAny _ _ (call (Value.builtin "len") [Value.ref _]) _ _ _); (refine len_ints (by k_asm) (by k_dflt k_mem) (by with_reducible assumption) (by k_extra "zL") ?_); (try simp only [List.length_map]))
  k_with "w eval Dict" => (k_here; k_dflt (refine kdn_str (by rfl) (by k_asm) (by first | k_asm | exact News.nil) (by exact Top.nolimit (by k_asm)) (by rfl) (by rfl) (by exact List.cons_ne_nil _ _) (by exact Nat.le_of_ble_eq_true rfl) ?_); intro zd zh zo zF zN zl zlo zhd; (try k_lt zl))
  k_with "w eval Constant int" => (with_reducible refine const_int_s ?_; intro _)
  k_with "w eval Constant str" => (with_reducible refine const_str_s ?_; intro _)
  k_with "w binaryOp Add int int" => (with_reducible refine add_int_s ?_; intro _)
  k_with "w binaryOp Sub int int" => (with_reducible refine sub_int_s ?_; intro _)
  k_with "w storeName" => (k_here; k_dflt (refine store_s (by k_asm) (by k_asm) ?_ rfl rfl; k_whole); intro _ _ _ _ _; (try k_sweep))
  k_with "w newTuple" => (k_here; kup_bare; k_dflt (refine tuple_s (by k_asm) (by k_asm) ?_ (by kmk_size)); intro _ _ _ _ zl; (try k_lt zl); (try k_sweep))
  k_with "w ktr_enter" => first | (refine enter_s (by k_extra "zC") rfl rfl (by first | assumption | exact rfl) (by k_is) (by k_is) (by ktr_room) (by first | exact BindsTo.of_eq rfl | exact binds_K (by k_in) rfl (by k_is) rfl rfl rfl) (by exact locs rfl) (by rfl) ?_ (by rfl) (by rfl) (by rfl) (by decide); k_whole; intro _ _ _ _ _ _ _ _ _ _ _ _; (try dsimp only); (try k_fold)) | (refine enterC_s (by k_extra "zC") rfl rfl (by first | assumption | exact rfl) (by k_is) (by k_is) (by ktr_room) (by first | exact BindsTo.of_eq rfl | exact binds_K (by k_in) rfl (by k_is) rfl rfl rfl) (by rfl) (by decide +kernel) ?_ (by rfl) (by rfl) (by rfl); k_whole; intro _ _ _ _ _ _ _ _ _ zN zY _ _ _ zl; (try k_lt zl); k_cells zY; (try simp only [List.cons_append, List.nil_append] at zN); (try dsimp only); (try k_fold))
  k_with "w getAttr ref" => (k_here; (with_reducible show wpAny _ _ (getAttr (Value.ref (AD.x (TS.A _ _))) _ _) _ _ _); first | ((with_reducible (first | apply rs_number | apply rs_sort | apply rs_parent | apply rs_left | apply rs_top | apply rs_width | apply rs_height)); (next => k_extra "zP"); intro _ _) | ((with_reducible (apply rs_children)); (next => k_extra "zP"); intro _) | ((with_reducible (first | apply rs_buffer | apply rs_start | apply rs_point | apply rs_hscroll)); (next => k_extra "zP"); intro _ _ _) | ((with_reducible (apply rs_earlier)); (next => k_extra "zP"); intro _ _ _ _))
  k_with "w getAttr ref" => (k_here; (with_reducible show wpAny _ _ (getAttr (Value.ref (TS.x _)) _ _) _ _ _); first | ((with_reducible (apply rs_t_windows)); (next => k_extra "zQ"); intro _) | ((with_reducible (first | apply rs_t_root | apply rs_t_selected | apply rs_t_last | apply rs_t_least_width | apply rs_t_least_height)); (next => k_extra "zQ"); intro _ _) | ((with_reducible (apply rs_t_clock)); (next => k_extra "zQ"); intro _ _ _))
  k_with "w getMethod ref" => (k_here; (with_reducible show wpAny _ _ (getMethod (Value.ref (AD.x (TS.A _ _))) _ _) _ _ _); ((with_reducible (first | apply ms_size | apply ms_set_size | apply ms_place | apply ms_shown | apply ms_show)); (next => k_extra "zP")))
  k_with "w getMethod ref" => (k_here; (with_reducible show wpAny _ _ (getMethod (Value.ref (TS.x _)) _ _) _ _ _); ((with_reducible (first | apply ms_t_window | apply ms_t_leaf | apply ms_t_touch | apply ms_t_fresh | apply ms_t_select | apply ms_t_least_leaf)); (next => k_extra "zQ")))
  k_with "w k_all" => first | assumption | exact all_succ (by assumption) | exact all_succ2 (by assumption)
  k_with "w subscriptTail" => (k_here; (with_reducible apply it_tail); (next => k_asm); (next => k_extra "zT"); rotate_left; (next => with_unfolding_all rfl))
  k_with "w getItem ref int" => (k_here; (with_reducible apply it_get); (next => k_asm); (next => k_extra "zT"); (next => k_extra "zn"))
  k_with "w getMethod ref" => (k_here; (with_reducible apply it_getm); (next => k_asm); (next => k_extra "zT"))
  k_with "w call builtin:dict.get" => (k_here; (with_reducible apply it_get2); (next => k_asm); (next => k_extra "zT"); (next => k_extra "zn"))
  k_with "w setAttr ref" => (k_here; (with_reducible show wpAny _ _ (setAttr (Value.ref (AD.x (TS.A _ _))) _ (Value.int _ _)) _ _ _); ((with_reducible (first | apply ws_parent | apply ws_left | apply ws_top | apply ws_width | apply ws_height | apply ws_buffer | apply ws_start | apply ws_point | apply ws_hscroll | apply ws_use_time)); (next => k_extra "zP"); intro _ _ _ _ _ _; (try k_sweep)))
  k_with "w setAttr ref" => (k_here; (with_reducible show wpAny _ _ (setAttr (Value.ref (TS.x _)) _ (Value.int _ _)) _ _ _); ((with_reducible (first | apply ws_t_last | apply ws_t_clock | apply ws_t_root | apply ws_t_selected)); (next => k_extra "zX"); intro _ _ _ _ _ _; (try k_sweep)))
  k_with "w exec Raise some none" => (first | (exfalso; omega) | (k_here; (with_reducible show wpAny _ _ (exec (Stmt.Raise (some (Expr.Call (Expr.Name (Str.ofString "LispSignal") _) _ _ _)) none _) _) _ _ _); k_dflt (refine raise_K rfl ?_)))
  k_with "w call ref" => (k_here; k_dflt (refine exc_call (by k_asm) (by k_asm) (by k_asm) ?_); intro _ _ _ _ _ _; refine wpAny_call ?_; k_dflt ktr_enter)
  k_with "w setAttr ref" => (k_here; (with_reducible show wpAny _ _ (setAttr (Value.ref _) (Str.ofString "symbol") _) _ _ _); k_dflt (refine exc_store0 (by k_asm) (by k_asm) (by k_asm) (by assumption) (by exact (sig_facts _).2.2.2.1) (by exact lk_exc _ (.inl rfl)) ?_); intro _ _ _ _ _ _ _ _ _)
  k_with "w setAttr ref" => (k_here; (with_reducible show wpAny _ _ (setAttr (Value.ref _) (Str.ofString "data") _) _ _ _); k_dflt (refine exc_store1 (by k_asm) (by k_asm) (by k_asm) (by assumption) (by assumption) (by assumption) (by assumption) (by exact (sig_facts _).2.2.2.2.1) (by exact lk_exc _ (.inr rfl)) ?_ (by exact Within.cons _ _ Within.nil) (by (rw [sizeLine_eq]; decide))); intro _ _ _ _ _ _)
  k_with "w RaiseK" => (k_here; k_dflt (refine raiseK_intro (by k_asm) (by k_asm) (by k_asm) (by k_mem) ?_))
  k_with "w And" => ((with_reducible show Value.none = Value.none ∧ _); refine ⟨rfl, ?_⟩)
  k_with "zh" => first | exact rfl | assumption
  k_with "zp" => first | k_extra "zT" | exact trivial
  k_with "x exec Try" => (k_here; (with_reducible show wpAny _ _ (exec (Stmt.Try _ (_ :: _) _ [] _) _) _ _ _); refine wpAny_Try_except ?_)
  k_with "x getAttr ref" => (k_here; (with_reducible show wpAny _ _ (getAttr (Value.ref _) (Str.ofString "symbol") _) _ _ _); k_dflt (refine exc_read (by k_asm) (by k_asm) (by k_asm) (by k_mem) (by assumption) (by assumption) (by k_mem) (by assumption) (by assumption) (by rfl) ?_))
  k_with "x bind" => (k_here; (with_reducible show wpAny _ _ (do bindName (envX _ _ _ _ _ _) _ Value.none; unbindBehindTheSuite (envX _ _ _ _ _ _) _ _) _ _ _); k_dflt (refine name_goesX (by k_asm) (by k_asm) ?_); intro _ _ _ _)
  k_with "x FPostM" => (dsimp only [FPostM])
  k_with "x subscriptTail" => (k_here; (with_reducible show wpAny _ _ (subscriptTail _ _ (Value.ref _) (Value.int _ _)) _ _ _); k_extra "sub")
  trivial
theorem seg16 {w : World} {mean : ExcName → Option Value} {mg mb : Str → Option Value} {base : Heap} {L fa da dl : Addr} {cd : Value} {s : Shared} {Q : Flow → Shared → Prop} {E : Value → Shared → Prop} {wide high : Int} {tw : Tok} {u : Str → Option Value} {news : Led} {S : TS} {r : Int} {f : Fo} {n z : Nat} {at' : Int} {ta : Tok} {rest : List Stmt}
    (env : Env) (he : envOfC (Str.ofString "law") lawSc L fa cd = env) (B : Below callerA base [] base) (X : (Mine.hd.heap_1 w.params).In base) (Tp : Top Mine.view (looseW Mine.view Mine.loose) mean mg mb base)
    (hE : PassesOwn (model PySem.Challenge.rw_np0059_01.row.prog w) (callerA.deeper env) env E) (hE2 : ∀ e, PassesOwnAt (model PySem.Challenge.rw_np0059_01.row.prog w) ((callerA.deeper env).mark (some (.ref e))) (callerA.deeper env) env E)
    (F : Fr base L s.heap (fun y => if y = Str.ofString "deck" then some (.ref da) else if y = Str.ofString "at" then some (.int at' ta) else if y = Str.ofString "wide" then some (.int wide tw) else u y)) (N : News base L s.heap news) (H : LS w L wide high n z news S da dl r f) (ha : at' ∈ Fo.lv S.W r f) (hn : n ≤ 700) (hz : z ≤ 20)
    (K : ∀ h' tk' news' S' (u' : Str → Option Value), Fr base L h' (fun y => if y = Str.ofString "at" then some (.int at' ta) else if y = Str.ofString "wide" then some (.int wide tw) else u' y) → News base L h' news' → LS w L wide high (n + 4) z news' S' da dl r f → S'.W = S.W → wpAny (model PySem.Challenge.rw_np0059_01.row.prog w) (callerA.deeper env) (execs rest env) Q E { s with heap := h', toks := tk' }) :
    wpAny (model PySem.Challenge.rw_np0059_01.row.prog w) (callerA.deeper env) (execs (lawS 16 :: rest) env) Q E s := by
  revert X
  k_fill
  intro X
  dsimp only [lawS, lawSc, lawPair, lawOf, PySem.Challenge.pw_np0059_01, List.getD, List.getElem?_cons_succ, List.getElem?_cons_zero, Option.getD, List.drop] at he ⊢
  refine shut ?_
  intro G9 hG9
  subst he
  have hT := H.tree
  have hF := H.full
  obtain ⟨o, hc, ho⟩ := H.cell
  refine hG9 ?_
  have hcl := hT.ex hc
  have hq := hF.lv_all at' ha
  k_with "exec For Name Tuple cons nil" => refine stop ?_
  k_with "pyIter ref" => refine stop ?_
  k_with "call ref" => refine stop ?_
  k_with "exec Return some" => exact absurd rfl (by assumption)
  k_steps
  refine go ?_
  k_here
  rename Fr _ _ _ _ => lF'
  with_unfolding_all refine' For_invVF lF' ?k1 ?k2 ?_ ?ks hE
  case k1 => exact rfl
  case k2 => exact rfl
  case ks => (intro _; with_unfolding_all rfl)
  k_steps
  refine go ?_
  rename Fr _ _ _ _ => lF'
  rename News _ _ _ _ => lN'
  rename ∀ p ∈ news, _ < _ => lA
  rename Addr => tp
  refine shut ?_
  intro G9 hG9
  obtain ⟨S1, H1, hS1, hm1, hk1, d1, d2, d3⟩ := H.keepN lN' (fun p hp => Nat.ne_of_lt (lA p hp))
  refine hG9 ?_
  generalize hlo : (Obj.mk _ _ _ _ : Obj) = lo at lN' H1 hm1
  with_unfolding_all refine' for_tuple (σ := Led × TS) (l := tp) (lo := lo) (fun c => c.1) [Str.ofString "offset", Str.ofString "due", Str.ofString "error"] (fun i c => LS w L wide high (n + i) z c.1 c.2 da dl r f ∧ Same1 S c.2 ∧ (tp, lo) ∈ c.2.ex) ((tp, lo) :: news, S1) ?hh ?hlc ?hld ?hl lF' lN' ?hp ?turn ?done
  case hh => rfl
  case hlc => (rw [← hlo])
  case hld => (rw [← hlo])
  case hl => exact fun i c h => h.1.tree.ex h.2.2
  case hp => exact ⟨H1, hS1.one, hm1⟩
  case done =>
    clear lF' lN'
    intro c u1 h2 tk2 hP F2 N2
    refine shut ?_
    intro G9 hG9
    obtain ⟨nw, S2⟩ := c
    obtain ⟨H2, hs2, _⟩ := hP
    refine hG9 ?_
    (try walk_at "SPost")
    exact K _ _ _ _ _ (fr_if F2 (if_name (by rfl) (if_name (by rfl) rfl))) N2 H2 hs2.W
  case turn =>
    clear lF' lN' hm1 hk1 H1 hS1 hlo
    intro i v I oi c u1 h2 tk2 hv hP hne F2 N2
    refine shut ?_
    intro G9 hG9
    obtain ⟨nw, S2⟩ := c
    obtain ⟨H2, hs2, htp⟩ := hP
    refine hG9 ?_
    dsimp only at H2 hs2 htp hne N2
    replace F2 : Fr base L h2 _ := F2
    replace N2 : News base L h2 _ := N2
    refine shut ?_
    intro G9 hG9
    obtain ⟨hi4, t, rfl⟩ : i < 4 ∧ ∃ t, v = .str (wordOf i) t := by
      match i, hv with
      | 0, hv => exact ⟨by lia, _, (Option.some.inj hv).symm⟩
      | 1, hv => exact ⟨by lia, _, (Option.some.inj hv).symm⟩
      | 2, hv => exact ⟨by lia, _, (Option.some.inj hv).symm⟩
      | 3, hv => exact ⟨by lia, _, (Option.some.inj hv).symm⟩
      | n + 4, hv => cases hv
    clear hv
    obtain ⟨S3, H3, hs3, hI3, hk3, e1, e2, e3⟩ := H2.keepN N2 hne
    have hs03 := hs2.trans hs3.one
    have htp3 := hk3 _ htp
    have e0 : tp ≠ I := hne _ (H2.tree.ex htp)
    clear htp hk3 hs3 hs2 H2
    have T3 := H3.tree
    obtain ⟨o3, hc3, ho3⟩ := H3.cell
    refine hG9 ?_
    have hcl3 := T3.ex hc3
    rw [hs03.x] at ho3
    have hx3 := hs03.x
    have hy3 := hs03.d
    k_steps
    refine go ?_
    ktr_call 0 (H3.draw (by lia) 20 _ (by decide) (by decide))
    intro r' nw4 h4 tk4 F4 N4 P4
    obtain ⟨S4, H4, hs4, hk4, ofs, toff, rfl, of0, of1⟩ := P4
    have hs04 := hs03.trans hs4.one
    have htp4 := hk4 _ htp3 d1
    have hI4 := hk4 _ hI3 e1
    clear hs03 htp3 hk4 hs4 hI3 H3 T3 hc3 hcl3 ho3
    have T4 := H4.tree
    obtain ⟨o4, hc4, ho4⟩ := H4.cell
    have hcl4 := T4.ex hc4
    rw [hs04.x] at ho4
    have hx4 := hs04.x
    have hy4 := hs04.d
    (try dsimp only)
    have hd4 : at' ∈ S4.dom := hs04.dom ▸ hq.2.2.1
    have hs4 : (S4.W at').sort = 0 := hs04.W ▸ hq.2.1
    have hL4 : Lv S4 (Fo.lv S.W r f) := hs04.W ▸ H4.full.isLv (by have := H4.size; lia)
    have C4 := fun t1 t2 t3 => beside_ok (w := w) (mean := mean) (mg := mg) (mb := mb) S4 _ hs04.x at' hd4 t1 _ hL4 hs4 ofs t2 t3 i hi4
    have C5 := fun t1 t2 t3 => in_direction_ok (w := w) (mean := mean) (mg := mg) (mb := mb) S4 _ hs04.x at' hd4 t1 _ hL4 hs4 ofs t2 t3 i hi4
    rw [hs04.W, cell_same (hF.one _ _), ← beyond_beside _ _ of0] at C4
    rw [hs04.W] at C5
    obtain ⟨D, hD⟩ : ∃ D, D = cellOf S.W (Fo.lv S.W r f) (beyond (S.W at') ofs i).1 (beyond (S.W at') ofs i).2 := ⟨_, rfl⟩
    have hDm : D ≠ 0 → D ∈ Fo.lv S.W r f := by rw [hD]; exact cell_mem
    rw [← hD] at C4 C5
    k_steps
    refine go ?_
    ktr_call 0 (C4 _ _ _)
    intro r' nw5 h5 tk5 F5 N5 P5
    obtain ⟨rfl, tb, rfl⟩ := P5
    (try dsimp only)
    k_steps
    refine go ?_
    ktr_call 0 (C5 _ _ _)
    intro r' nw5 h5 tk5 F5 N5 P5
    obtain ⟨rfl, td, rfl⟩ := P5
    clear C4 C5
    (try dsimp only)
    k_steps
    refine go ?_
    (with_reducible show wpAny _ _ (call (Value.ref 147) _) _ _ _)
    ktr_call 0 (select_ok S4 _ hs04.x at' hd4 _ hs4)
    intro r' nw5 h5 tk5 F5 N5 P5
    obtain ⟨T5, rfl⟩ := P5
    obtain ⟨S5, H5, hs5, hsel5, hex5⟩ := H4.sel T5
    have hs05 := hs04.trans hs5
    have hL5 : Lv S5 (Fo.lv S.W r f) := hs05.W ▸ H5.full.isLv (by have := H5.size; lia)
    have htp5 : (tp, lo) ∈ S5.ex := hex5 ▸ htp4
    have hI5 : (I, oi) ∈ S5.ex := hex5 ▸ hI4
    clear T5 hs04 htp4 hI4 hs5 hex5 H4 T4 hc4 hcl4 ho4 hd4 hs4 hL4
    replace T5 := H5.tree
    have hd5 : at' ∈ S5.dom := hs05.dom ▸ hq.2.2.1
    have hso5 : (S5.W at').sort = 0 := hs05.W ▸ hq.2.1
    obtain ⟨o5, hc5, ho5⟩ := H5.cell
    have hcl5 := T5.ex hc5
    rw [hs05.x] at ho5
    have hx5 := hs05.x
    have hy5 := hs05.d
    (try dsimp only)
    k_steps
    refine go ?_
    by_cases hz : D = 0
    · have CR := fun t1 t2 => sel_dir_raises (w := w) (mean := mean) (mg := mg) (mb := mb) S5 _ hs05.x _ hL5 at' hsel5 hd5 hso5 ofs t1 t2 i hi4 (by rw [hs05.W, ← hD]; exact hz)
      k_with "exec Return some" => (first | exact absurd hz (by assumption) | exact absurd hsel5 (by assumption))
      ktr_call 1 (CR _ _)
      intro e ed oD mA tkx g h6 tk6 F6 U6 R6 hO hsym
      (try dsimp only)
      k_dflt (refine' caughtBX ?K ?F ?U ?R ?X ?T ?ex ?_)
      (case K => k_asm); (case F => exact F6); (case U => exact U6); (case R => exact R6); (case X => k_asm); (case T => k_asm); (case ex => k_is)
      intro h7 oe tk7 F7 N7 hP7 hd7
      (try dsimp only)
      k_steps
      refine fend_intro (off I nw5, { S5 with ex := off I S5.ex }) (by assumption) (by assumption) (.tail _ (.tail _ (T5.ex hI5))) (fun p hp => .tail _ (.tail _ (off_sub p hp))) (fun p hp => off_ne p hp) (by ksw_same) ⟨H5.without hI5 e1 e2 e3, ⟨hs05.x, hs05.d, hs05.root, hs05.dom, hs05.W⟩, mem_off htp5 e0⟩
    · have CK := fun t1 t2 => sel_dir_ok (w := w) (mean := mean) (mg := mg) (mb := mb) S5 _ hs05.x _ hL5 at' hsel5 hd5 hso5 ofs t1 t2 i hi4 (by rw [hs05.W, ← hD]; exact hDm hz) (by rw [hs05.W, ← hD]; exact hz)
      rw [hs05.W, ← hD] at CK
      ktr_call 0 (CK _ _)
      intro r' nw6 h6 tk6 F6 N6 P6
      obtain ⟨T6, td6, rfl⟩ := P6
      obtain ⟨S6, H6, hs6, hsel6, hex6⟩ := H5.sel (news' := nw6) (m := D) (by rw [hs05.W]; exact T6)
      have hs06 := hs05.trans hs6
      have htp6 : (tp, lo) ∈ S6.ex := hex6 ▸ htp5
      have hI6 : (I, oi) ∈ S6.ex := hex6 ▸ hI5
      clear T6 hs05 htp5 hI5 hs6 hex6 H5 T5 hc5 hcl5 ho5 hL5 hd5 hso5 CK hsel5 hx5 hy5
      have T6 := H6.tree
      obtain ⟨o6, hc6, ho6⟩ := H6.cell
      have hcl6 := T6.ex hc6
      rw [hs06.x] at ho6
      have hx6 := hs06.x
      have hy6 := hs06.d
      (try dsimp only)
      k_with "exec Return some" => (first | exact absurd rfl (by assumption) | exact absurd hsel6 (by assumption) | exact absurd (by assumption) hz)
      k_steps
      refine fend_intro (off I nw6, { S6 with ex := off I S6.ex }) (by assumption) (by assumption) (T6.ex hI6) (fun p hp => off_sub p hp) (fun p hp => off_ne p hp) (by ksw_same) ⟨H6.without hI6 e1 e2 e3, ⟨hs06.x, hs06.d, hs06.root, hs06.dom, hs06.W⟩, mem_off htp6 e0⟩
end
section
theorem fresh_S17 : True := by
  w_top off
  k_with_none
  k_with "w k_mem" => (with_unfolding_all refine memIn ?_; ktr_member)
  k_with "w units_room" => ktr_units
  k_with "w k_room" => ktr_room
  k_with "zT" => first | assumption | ((refine TreeIn.mono (by assumption) ?_); repeat (first | exact sub_nil | refine sub_tail ?_))
  k_with "zn" => first | assumption | exact .head _ | exact .tail _ (by assumption)
  k_with "zA" => first | k_extra "zx" | exact upd_ne _ _ (by first | assumption | exact Ne.symm (by assumption))
  k_with "zx" => first | with_reducible rfl | assumption
  k_with "zP" => exact ⟨by k_asm, by k_asm, by k_asm, by k_extra "zT", by k_extra "zn", by k_extra "zA"⟩
  k_with "zQ" => exact ⟨by k_asm, by k_asm, by k_asm, by k_extra "zT", by k_extra "zx", by k_extra "zx"⟩
  k_with "zX" => exact ⟨by k_asm, by k_asm, by k_asm, by k_extra "zT", by k_extra "zx"⟩
  k_with "zC" => exact ⟨by k_asm, by k_asm, by k_asm, by k_asm, by k_asm⟩
  k_with "w ktr_room" => first | exact room1 (by assumption) rfl | exact room0 (by assumption) rfl | exact room2 (by assumption) rfl | ((simp +zetaDelta only [depth_under_make, depth_under_kw, depth_in1, depth_deeper, depth_caller, recursionLimit] at *); omega)
  k_with "w ktr_units" => first | exact room0 (by assumption) rfl | exact room1 (by assumption) rfl | (have zcL := cLine_is; (simp +zetaDelta only [units_in1, units_deeper, Around.mark_units, units_caller] at *); omega)
  k_with "zL" => ((try simp only [List.length_reverse, List.length_map, List.length_append, List.length_cons, List.length_nil]); omega)
  k_with "w call builtin:list.pop" => (k_here; k_dflt (refine pop_last (by k_asm) (by k_asm) (by k_upd) (by first | omega | assumption) ?_); intro _ _ _; (try k_sweep))
  k_with "w call builtin:list.extend" => (k_here; (with_reducible show wpAny _ _ (call (Value.builtin _) [Value.ref _, Value.ref _]) _ _ _); k_dflt (refine ext_ints (by k_asm) (by k_asm) (by k_mem) (by k_updF) (by l_ints) (by k_extra "zL") ?_); intro _ _ _ zN; (try dsimp only at zN); (try k_sweep))
  k_with "w setAttr ref" => (k_here; k_dflt (refine set_s (by k_asm) (by k_asm) (by k_asm) (by k_inst) (by rfl) (by k_is) (by k_is) (by k_is) (by k_is) (by k_get) (by k_put) (by k_updF) (by exact Nat.le_of_ble_eq_true rfl) ?_; k_whole); intro _ _ _ _ _; (try k_sweep))
  k_with "w call builtin:list.append" => (k_here; (with_reducible show wpAny _ _ (call (Value.builtin _) [Value.ref _, _]) _ _ _); k_dflt (refine app_any (by k_asm) (by k_asm) (by k_upd) (by first | omega | k_extra "zL") ?_); intro _ _ zN; (try dsimp only at zN); (try k_sweep))
  k_with "w execs cons" => (k_here; first | (refine execs_shut (s := ‹Shared›) ?_; intro _ _ _) | (refine execs_lit ?_; intro _ _ _) | (refine execs_shut0 ?_; intro _ _))
  k_with "w SPost" => first | refine spost_next (by assumption) ?_ | refine spost_ret (by assumption) ?_ | refine spost_cont (by assumption) ?_ | refine spost_brk (by assumption) ?_
  k_with "w CPost" => (refine cpost_of (by assumption) ?_)
  k_with "w WPost" => (dsimp only [WPost])
  k_with "w ksw_same" => (intro zz z3; (simp only [List.contains_cons, List.contains_nil, Bool.or_false, Bool.or_eq_false_iff, beq_eq_false_iff_ne, ne_eq] at z3); first | (simp [z3]; done) | (simp +zetaDelta [z3]; done))
  k_with "w FPost" => (dsimp only [FPost])
  k_with "w execs nil" => with_reducible refine wpAny_execs_nil ?_
  k_with "w call builtin:len" => (k_here; (with_reducible show wpAny _ _ (call (Value.builtin "len") [Value.ref _]) _ _ _); (refine len_ints (by k_asm) (by k_dflt k_mem) (by with_reducible assumption) (by k_extra "zL") ?_); (try simp only [List.length_map]))
  k_with "w eval Dict" => (k_here; k_dflt (refine kdn_str (by rfl) (by k_asm) (by first | k_asm | exact News.nil) (by exact Top.nolimit (by k_asm)) (by rfl) (by rfl) (by exact List.cons_ne_nil _ _) (by exact Nat.le_of_ble_eq_true rfl) ?_); intro zd zh zo zF zN zl zlo zhd; (try k_lt zl))
  k_with "w eval Constant int" => (with_reducible refine const_int_s ?_; intro _)
  k_with "w eval Constant str" => (with_reducible refine const_str_s ?_; intro _)
  k_with "w binaryOp Add int int" => (with_reducible refine add_int_s ?_; intro _)
  k_with "w binaryOp Sub int int" => (with_reducible refine sub_int_s ?_; intro _)
  k_with "w storeName" => (k_here; k_dflt (refine store_s (by k_asm) (by k_asm) ?_ rfl rfl; k_whole); intro _ _ _ _ _; (try k_sweep))
  k_with "w newTuple" => (k_here; kup_bare; k_dflt (refine tuple_s (by k_asm) (by k_asm) ?_ (by kmk_size)); intro _ _ _ _ zl; (try k_lt zl); (try k_sweep))
  k_with "w ktr_enter" => first | (refine enter_s (by k_extra "zC") rfl rfl (by first | assumption | exact rfl) (by k_is) (by k_is) (by ktr_room) (by first | exact BindsTo.of_eq rfl | exact binds_K (by k_in) rfl (by k_is) rfl rfl rfl) (by exact locs rfl) (by rfl) ?_ (by rfl) (by rfl) (by rfl) (by decide); k_whole; intro _ _ _ _ _ _ _ _ _ _ _ _; (try dsimp only); (try k_fold)) | (refine enterC_s (by k_extra "zC") rfl rfl (by first | assumption | exact rfl) (by k_is) (by k_is) (by ktr_room) (by first | exact BindsTo.of_eq rfl | exact binds_K (by k_in) rfl (by k_is) rfl rfl rfl) (by rfl) (by decide +kernel) ?_ (by rfl) (by rfl) (by rfl); k_whole; intro _ _ _ _ _ _ _ _ _ zN zY _ _ _ zl; (try k_lt zl); k_cells zY; (try simp only [List.cons_append, List.nil_append] at zN); (try dsimp only); (try k_fold))
  k_with "w getAttr ref" => (k_here; (with_reducible show wpAny _ _ (getAttr (Value.ref (AD.x (TS.A _ _))) _ _) _ _ _); first | ((with_reducible (first | apply rs_number | apply rs_sort | apply rs_parent | apply rs_left | apply rs_top | apply rs_width | apply rs_height)); (next => k_extra "zP"); intro _ _) | ((with_reducible (apply rs_children)); (next => k_extra "zP"); intro _) | ((with_reducible (first | apply rs_buffer | apply rs_start | apply rs_point | apply rs_hscroll)); (next => k_extra "zP"); intro _ _ _) | ((with_reducible (apply rs_earlier)); (next => k_extra "zP"); intro _ _ _ _))
  k_with "w getAttr ref" => (k_here; (with_reducible show wpAny _ _ (getAttr (Value.ref (TS.x _)) _ _) _ _ _); first | ((with_reducible (apply rs_t_windows)); (next => k_extra "zQ"); intro _) | ((with_reducible (first | apply rs_t_root | apply rs_t_selected | apply rs_t_last | apply rs_t_least_width | apply rs_t_least_height)); (next => k_extra "zQ"); intro _ _) | ((with_reducible (apply rs_t_clock)); (next => k_extra "zQ"); intro _ _ _))
  k_with "w getMethod ref" => (k_here; (with_reducible show wpAny _ _ (getMethod (Value.ref (AD.x (TS.A _ _))) _ _) _ _ _); ((with_reducible (first | apply ms_size | apply ms_set_size | apply ms_place | apply ms_shown | apply ms_show)); (next => k_extra "zP")))
  k_with "w getMethod ref" => (k_here; (with_reducible show wpAny _ _ (getMethod (Value.ref (TS.x _)) _ _) _ _ _); ((with_reducible (first | apply ms_t_window | apply ms_t_leaf | apply ms_t_touch | apply ms_t_fresh | apply ms_t_select | apply ms_t_least_leaf)); (next => k_extra "zQ")))
  k_with "w k_all" => first | assumption | exact all_succ (by assumption) | exact all_succ2 (by assumption)
  k_with "w subscriptTail" => (k_here; (with_reducible apply it_tail); (next => k_asm); (next => k_extra "zT"); rotate_left; (next => with_unfolding_all rfl))
  k_with "w getItem ref int" => (k_here; (with_reducible apply it_get); (next => k_asm); (next => k_extra "zT"); (next => k_extra "zn"))
  k_with "w getMethod ref" => (k_here; (with_reducible apply it_getm); (next => k_asm); (next => k_extra "zT"))
  k_with "w call builtin:dict.get" => (k_here; (with_reducible apply it_get2); (next => k_asm); (next => k_extra "zT"); (next => k_extra "zn"))
  k_with "w setAttr ref" => (k_here; (with_reducible show wpAny _ _ (setAttr (Value.ref (AD.x (TS.A _ _))) _ (Value.int _ _)) _ _ _); ((with_reducible (first | apply ws_parent | apply ws_left | apply ws_top | apply ws_width | apply ws_height | apply ws_buffer | apply ws_start | apply ws_point | apply ws_hscroll | apply ws_use_time)); (next => k_extra "zP"); intro _ _ _ _ _ _; (try k_sweep)))
  k_with "w setAttr ref" => (k_here; (with_reducible show wpAny _ _ (setAttr (Value.ref (TS.x _)) _ (Value.int _ _)) _ _ _); ((with_reducible (first | apply ws_t_last | apply ws_t_clock | apply ws_t_root | apply ws_t_selected)); (next => k_extra "zX"); intro _ _ _ _ _ _; (try k_sweep)))
  k_with "w exec Raise some none" => (first | (exfalso; omega) | (k_here; (with_reducible show wpAny _ _ (exec (Stmt.Raise (some (Expr.Call (Expr.Name (Str.ofString "LispSignal") _) _ _ _)) none _) _) _ _ _); k_dflt (refine raise_K rfl ?_)))
  k_with "w call ref" => (k_here; k_dflt (refine exc_call (by k_asm) (by k_asm) (by k_asm) ?_); intro _ _ _ _ _ _; refine wpAny_call ?_; k_dflt ktr_enter)
  k_with "w setAttr ref" => (k_here; (with_reducible show wpAny _ _ (setAttr (Value.ref _) (Str.ofString "symbol") _) _ _ _); k_dflt (refine exc_store0 (by k_asm) (by k_asm) (by k_asm) (by assumption) (by exact (sig_facts _).2.2.2.1) (by exact lk_exc _ (.inl rfl)) ?_); intro _ _ _ _ _ _ _ _ _)
  k_with "w setAttr ref" => (k_here; (with_reducible show wpAny _ _ (setAttr (Value.ref _) (Str.ofString "data") _) _ _ _); k_dflt (refine exc_store1 (by k_asm) (by k_asm) (by k_asm) (by assumption) (by assumption) (by assumption) (by assumption) (by exact (sig_facts _).2.2.2.2.1) (by exact lk_exc _ (.inr rfl)) ?_ (by exact Within.cons _ _ Within.nil) (by (rw [sizeLine_eq]; decide))); intro _ _ _ _ _ _)
  k_with "w RaiseK" => (k_here; k_dflt (refine raiseK_intro (by k_asm) (by k_asm) (by k_asm) (by k_mem) ?_))
  k_with "w And" => ((with_reducible show Value.none = Value.none ∧ _); refine ⟨rfl, ?_⟩)
  k_with "zh" => first | exact rfl | assumption
  k_with "zp" => first | k_extra "zT" | exact trivial
  k_with "x exec Try" => (k_here; (with_reducible show wpAny _ _ (exec (Stmt.Try _ (_ :: _) _ [] _) _) _ _ _); refine wpAny_Try_except ?_)
  k_with "x getAttr ref" => (k_here; (with_reducible show wpAny _ _ (getAttr (Value.ref _) (Str.ofString "symbol") _) _ _ _); k_dflt (refine exc_read (by k_asm) (by k_asm) (by k_asm) (by k_mem) (by assumption) (by assumption) (by k_mem) (by assumption) (by assumption) (by rfl) ?_))
  k_with "x bind" => (k_here; (with_reducible show wpAny _ _ (do bindName (envX _ _ _ _ _ _) _ Value.none; unbindBehindTheSuite (envX _ _ _ _ _ _) _ _) _ _ _); k_dflt (refine name_goesX (by k_asm) (by k_asm) ?_); intro _ _ _ _)
  k_with "x FPostM" => (dsimp only [FPostM])
  k_with "x subscriptTail" => (k_here; (with_reducible show wpAny _ _ (subscriptTail _ _ (Value.ref _) (Value.int _ _)) _ _ _); k_extra "sub")
  trivial
theorem seg17 {w : World} {mean : ExcName → Option Value} {mg mb : Str → Option Value} {base : Heap} {L fa da dl : Addr} {cd : Value} {s : Shared} {Q : Flow → Shared → Prop} {E : Value → Shared → Prop} {wide high : Int} {tw : Tok} {u : Str → Option Value} {news : Led} {S : TS} {r : Int} {f : Fo} {n z : Nat} {at' : Int} {ta : Tok}
    (env : Env) (he : envOfC (Str.ofString "law") lawSc L fa cd = env) (B : Below callerA base [] base) (X : (Mine.hd.heap_1 w.params).In base) (Tp : Top Mine.view (looseW Mine.view Mine.loose) mean mg mb base)
    (F : Fr base L s.heap (fun y => if y = Str.ofString "at" then some (.int at' ta) else if y = Str.ofString "wide" then some (.int wide tw) else u y)) (N : News base L s.heap (news)) (H : LS w L wide high n z news S da dl r f) (ha : at' ∈ Fo.lv S.W r f)
    (K : ∀ h' tk' m', Fr base L h' m' → Q (.ret (.bool true)) { s with heap := h', toks := tk' }) :
    wpAny (model PySem.Challenge.rw_np0059_01.row.prog w) (callerA.deeper env) (execs (lawB 17) env) Q E s := by
  revert X
  k_fill
  intro X
  dsimp only [lawB, lawS, lawSc, lawPair, lawOf, PySem.Challenge.pw_np0059_01, List.getD, List.getElem?_cons_succ, List.getElem?_cons_zero, Option.getD, List.drop] at he ⊢
  refine shut ?_
  intro G9 hG9
  subst he
  have hT := H.tree
  have hF := H.full
  obtain ⟨o, hc, ho⟩ := H.cell
  refine hG9 ?_
  have hcl := hT.ex hc
  have hq := hF.lv_all at' ha
  k_with "call ref" =>
    first
    | (with_reducible show wpAny _ _ (call (Value.ref 296) _) _ _ _)
      ktr_call 0 (edges_ok S _ rfl at' hq.2.2.1 _)
      intro r' news' h' tk' F' N' P'
      obtain ⟨a, t1, t2, t3, t4, rfl, rfl, hl'⟩ := P'
      (try dsimp only)
      (try simp only [AllLt, and_true] at l9)
      (try simp only [AllLt, and_true] at hl')
    | (with_reducible show wpAny _ _ (call (Value.ref 282) _) _ _ _)
      ktr_call 0 (body_width_ok S _ rfl at' hq.2.2.1 _ hq.2.1 (hF.tre.root ▸ hF.tre.dom _ (.head _)))
      intro r' news' h' tk' F' N' P'
      obtain ⟨rfl, t9, rfl⟩ := P'
      (try dsimp only)
      (try simp only [AllLt, and_true] at l9)
      (try simp only [AllLt, and_true] at hl')
    | (with_reducible show wpAny _ _ (call (Value.ref 289) _) _ _ _)
      ktr_call 0 (body_height_ok S _ rfl at' hq.2.2.1 _ hq.2.1)
      intro r' news' h' tk' F' N' P'
      obtain ⟨rfl, t9, rfl⟩ := P'
      (try dsimp only)
      (try simp only [AllLt, and_true] at l9)
      (try simp only [AllLt, and_true] at hl')
  k_steps
  rename Fr _ _ _ _ => lF
  have key : ∀ b s2, b = true → (∀ s3, Q (.ret (.bool true)) s3 → True) → Q (.ret (.bool true)) s2 → Q (.ret (.bool b)) s2 := by rintro _ _ rfl _ h; exact h
  have hw : (S.W S.root).width = wide := by rw [hF.tre.root]; exact hF.wide
  refine key _ _ ?_ (fun _ _ => trivial) (K _ _ _ lF)
  rw [hw]
  simp only [decide_eq_true_eq, List.cons.injEq, and_true]
  refine ⟨?_, ?_⟩ <;> (try split) <;> lia
end
section
theorem lawB_cons (i : Nat) (h : i < 19) : lawB i = lawS i :: lawB (i + 1) := by
  have hl : lawPair.1.length = 19 := by rfl
  unfold lawB lawS
  rw [List.drop_eq_getElem_cons (by lia), List.getD_eq_getElem?_getD, List.getElem?_eq_getElem (by lia)]
  rfl
theorem law_tail {w : World} {mean : ExcName → Option Value} {mg mb : Str → Option Value} {base : Heap} {L fa da dl : Addr} {cd : Value} {s : Shared} {Q : Flow → Shared → Prop} {E : Value → Shared → Prop} {wide high : Int} {tw : Tok} {u : Str → Option Value} {news : Led} {S : TS} {r : Int} {f : Fo} {n : Nat}
    (env : Env) (he : envOfC (Str.ofString "law") lawSc L fa cd = env) (B : Below callerA base [] base) (X : (Mine.hd.heap_1 w.params).In base) (Tp : Top Mine.view (looseW Mine.view Mine.loose) mean mg mb base)
    (hE : PassesOwn (model PySem.Challenge.rw_np0059_01.row.prog w) (callerA.deeper env) env E) (hE2 : ∀ e, PassesOwnAt (model PySem.Challenge.rw_np0059_01.row.prog w) ((callerA.deeper env).mark (some (.ref e))) (callerA.deeper env) env E)
    (F : Fr base L s.heap (fun y => if y = Str.ofString "deck" then some (.ref da) else if y = Str.ofString "wide" then some (.int wide tw) else u y)) (N : News base L s.heap news) (H : LS w L wide high n 0 news S da dl r f) (hn : n ≤ 500)
    (K : ∀ h' tk' m', Fr base L h' m' → Q (.ret (.bool true)) { s with heap := h', toks := tk' }) :
    wpAny (model PySem.Challenge.rw_np0059_01.row.prog w) (callerA.deeper env) (execs (lawB 3) env) Q E s := by
  rw [lawB_cons 3 (by decide)]
  refine seg3 env he B X Tp hE hE2 F N H (by lia) (by lia) ?_
  clear F N H
  intro h4 tk4 nw4 S4 r4 f4 u4 F4 N4 H4
  rw [lawB_cons 4 (by decide), lawB_cons 5 (by decide), lawB_cons 6 (by decide), lawB_cons 7 (by decide)]
  refine seg4 (s := { s with heap := h4, toks := tk4 }) env he B X Tp hE hE2 F4 N4 H4 (by lia) (by lia) ?_
  clear F4 N4 H4
  intro h5 tk5 nw5 S5 u5 lf lr vf zf vr zr at' ta i0 F5 N5 H5 hW5 hlf hif hir hi0 lA
  rw [← hW5] at hif hir hi0
  clear hW5
  have ha5 := List.mem_of_getElem? hi0
  rw [lawB_cons 8 (by decide)]
  refine seg8 (s := { s with heap := h5, toks := tk5 }) env he B X Tp F5 N5 H5 (by lia) hlf hif hir hi0 lA ?_
  clear F5 N5
  intro h6 tk6 u6 F6 N6
  rw [lawB_cons 9 (by decide)]
  refine seg9 (s := { s with heap := h6, toks := tk6 }) env he B X Tp F6 N6 H5 (by lia) hlf hif ?_
  clear F6 N6
  intro h7 tk7 u7 F7 N7
  rw [lawB_cons 10 (by decide), lawB_cons 11 (by decide), lawB_cons 12 (by decide), lawB_cons 13 (by decide), lawB_cons 14 (by decide)]
  refine seg10 (s := { s with heap := h7, toks := tk7 }) env he B X Tp hE hE2 F7 N7 H5 ha5 (by lia) (by lia) ?_
  clear F7 N7
  intro h8 tk8 nw8 S8 u8 F8 N8 H8 hW8
  rw [← hW8] at ha5
  rw [lawB_cons 15 (by decide)]
  refine seg15 (s := { s with heap := h8, toks := tk8 }) env he B X Tp hE hE2 F8 N8 H8 ha5 (by lia) (by lia) ?_
  clear F8 N8
  intro h9 tk9 nw9 S9 u9 F9 N9 H9 hW9
  rw [← hW9] at ha5
  rw [lawB_cons 16 (by decide)]
  refine seg16 (s := { s with heap := h9, toks := tk9 }) env he B X Tp hE hE2 F9 N9 H9 ha5 (by lia) (by lia) ?_
  clear F9 N9
  intro h10 tk10 nw10 S10 u10 F10 N10 H10 hW10
  rw [← hW10] at ha5
  exact seg17 (s := { s with heap := h10, toks := tk10 }) env he B X Tp F10 N10 H10 ha5 (fun h' tk' m' F' => K h' tk' m' F')
end
section
theorem fresh_S00 : True := by
  w_top off
  k_with_none
  k_with "w k_mem" => (with_unfolding_all refine memIn ?_; ktr_member)
  k_with "w units_room" => ktr_units
  k_with "w k_room" => ktr_room
  k_with "zT" => first | assumption | ((refine TreeIn.mono (by assumption) ?_); repeat (first | exact sub_nil | refine sub_tail ?_))
  k_with "zn" => first | assumption | exact .head _ | exact .tail _ (by assumption)
  k_with "zA" => first | k_extra "zx" | exact upd_ne _ _ (by first | assumption | exact Ne.symm (by assumption))
  k_with "zx" => first | with_reducible rfl | assumption
  k_with "zP" => exact ⟨by k_asm, by k_asm, by k_asm, by k_extra "zT", by k_extra "zn", by k_extra "zA"⟩
  k_with "zQ" => exact ⟨by k_asm, by k_asm, by k_asm, by k_extra "zT", by k_extra "zx", by k_extra "zx"⟩
  k_with "zX" => exact ⟨by k_asm, by k_asm, by k_asm, by k_extra "zT", by k_extra "zx"⟩
  k_with "zC" => exact ⟨by k_asm, by k_asm, by k_asm, by k_asm, by k_asm⟩
  k_with "w ktr_room" => first | exact room1 (by assumption) rfl | exact room0 (by assumption) rfl | exact room2 (by assumption) rfl | ((simp +zetaDelta only [depth_under_make, depth_under_kw, depth_in1, depth_deeper, depth_caller, recursionLimit] at *); omega)
  k_with "w ktr_units" => first | exact room0 (by assumption) rfl | exact room1 (by assumption) rfl | (have zcL := cLine_is; (simp +zetaDelta only [units_in1, units_deeper, Around.mark_units, units_caller] at *); omega)
  k_with "zL" => ((try simp only [List.length_reverse, List.length_map, List.length_append, List.length_cons, List.length_nil]); omega)
  k_with "w call builtin:list.pop" => (k_here; k_dflt (refine pop_last (by k_asm) (by k_asm) (by k_upd) (by first | omega | assumption) ?_); intro _ _ _; (try k_sweep))
  k_with "w call builtin:list.extend" => (k_here; (with_reducible show wpAny _ _ (call (Value.builtin _) [Value.ref _, Value.ref _]) _ _ _); k_dflt (refine ext_ints (by k_asm) (by k_asm) (by k_mem) (by k_updF) (by l_ints) (by k_extra "zL") ?_); intro _ _ _ zN; (try dsimp only at zN); (try k_sweep))
  k_with "w setAttr ref" => (k_here; k_dflt (refine set_s (by k_asm) (by k_asm) (by k_asm) (by k_inst) (by rfl) (by k_is) (by k_is) (by k_is) (by k_is) (by k_get) (by k_put) (by k_updF) (by exact Nat.le_of_ble_eq_true rfl) ?_; k_whole); intro _ _ _ _ _; (try k_sweep))
  k_with "w call builtin:list.append" => (k_here; (with_reducible show wpAny _ _ (call (Value.builtin _) [Value.ref _, _]) _ _ _); k_dflt (refine app_any (by k_asm) (by k_asm) (by k_upd) (by first | omega | k_extra "zL") ?_); intro _ _ zN; (try dsimp only at zN); (try k_sweep))
  k_with "w execs cons" => (k_here; first | (refine execs_shut (s := ‹Shared›) ?_; intro _ _ _) | (refine execs_lit ?_; intro _ _ _) | (refine execs_shut0 ?_; intro _ _))
  k_with "w SPost" => first | refine spost_next (by assumption) ?_ | refine spost_ret (by assumption) ?_ | refine spost_cont (by assumption) ?_ | refine spost_brk (by assumption) ?_
  k_with "w CPost" => (refine cpost_of (by assumption) ?_)
  k_with "w WPost" => (dsimp only [WPost])
  k_with "w ksw_same" => (intro zz z3; (simp only [List.contains_cons, List.contains_nil, Bool.or_false, Bool.or_eq_false_iff, beq_eq_false_iff_ne, ne_eq] at z3); first | (simp [z3]; done) | (simp +zetaDelta [z3]; done))
  k_with "w FPost" => (dsimp only [FPost])
  k_with "w execs nil" => with_reducible refine wpAny_execs_nil ?_
  k_with "w call builtin:len" => (k_here; (with_reducible show wpAny _ _ (call (Value.builtin "len") [Value.ref _]) _ _ _); (refine len_ints (by k_asm) (by k_dflt k_mem) (by with_reducible assumption) (by k_extra "zL") ?_); (try simp only [List.length_map]))
  k_with "w eval Dict" => (k_here; k_dflt (refine kdn_str (by rfl) (by k_asm) (by first | k_asm | exact News.nil) (by exact Top.nolimit (by k_asm)) (by rfl) (by rfl) (by exact List.cons_ne_nil _ _) (by exact Nat.le_of_ble_eq_true rfl) ?_); intro zd zh zo zF zN zl zlo zhd; (try k_lt zl))
  k_with "w eval Constant int" => (with_reducible refine const_int_s ?_; intro _)
  k_with "w eval Constant str" => (with_reducible refine const_str_s ?_; intro _)
  k_with "w binaryOp Add int int" => (with_reducible refine add_int_s ?_; intro _)
  k_with "w binaryOp Sub int int" => (with_reducible refine sub_int_s ?_; intro _)
  k_with "w storeName" => (k_here; k_dflt (refine store_s (by k_asm) (by k_asm) ?_ rfl rfl; k_whole); intro _ _ _ _ _; (try k_sweep))
  k_with "w newTuple" => (k_here; kup_bare; k_dflt (refine tuple_s (by k_asm) (by k_asm) ?_ (by kmk_size)); intro _ _ _ _ zl; (try k_lt zl); (try k_sweep))
  k_with "w ktr_enter" => first | (refine enter_s (by k_extra "zC") rfl rfl (by first | assumption | exact rfl) (by k_is) (by k_is) (by ktr_room) (by first | exact BindsTo.of_eq rfl | exact binds_K (by k_in) rfl (by k_is) rfl rfl rfl) (by exact locs rfl) (by rfl) ?_ (by rfl) (by rfl) (by rfl) (by decide); k_whole; intro _ _ _ _ _ _ _ _ _ _ _ _; (try dsimp only); (try k_fold)) | (refine enterC_s (by k_extra "zC") rfl rfl (by first | assumption | exact rfl) (by k_is) (by k_is) (by ktr_room) (by first | exact BindsTo.of_eq rfl | exact binds_K (by k_in) rfl (by k_is) rfl rfl rfl) (by rfl) (by decide +kernel) ?_ (by rfl) (by rfl) (by rfl); k_whole; intro _ _ _ _ _ _ _ _ _ zN zY _ _ _ zl; (try k_lt zl); k_cells zY; (try simp only [List.cons_append, List.nil_append] at zN); (try dsimp only); (try k_fold))
  k_with "w getAttr ref" => (k_here; (with_reducible show wpAny _ _ (getAttr (Value.ref (AD.x (TS.A _ _))) _ _) _ _ _); first | ((with_reducible (first | apply rs_number | apply rs_sort | apply rs_parent | apply rs_left | apply rs_top | apply rs_width | apply rs_height)); (next => k_extra "zP"); intro _ _) | ((with_reducible (apply rs_children)); (next => k_extra "zP"); intro _) | ((with_reducible (first | apply rs_buffer | apply rs_start | apply rs_point | apply rs_hscroll)); (next => k_extra "zP"); intro _ _ _) | ((with_reducible (apply rs_earlier)); (next => k_extra "zP"); intro _ _ _ _))
  k_with "w getAttr ref" => (k_here; (with_reducible show wpAny _ _ (getAttr (Value.ref (TS.x _)) _ _) _ _ _); first | ((with_reducible (apply rs_t_windows)); (next => k_extra "zQ"); intro _) | ((with_reducible (first | apply rs_t_root | apply rs_t_selected | apply rs_t_last | apply rs_t_least_width | apply rs_t_least_height)); (next => k_extra "zQ"); intro _ _) | ((with_reducible (apply rs_t_clock)); (next => k_extra "zQ"); intro _ _ _))
  k_with "w getMethod ref" => (k_here; (with_reducible show wpAny _ _ (getMethod (Value.ref (AD.x (TS.A _ _))) _ _) _ _ _); ((with_reducible (first | apply ms_size | apply ms_set_size | apply ms_place | apply ms_shown | apply ms_show)); (next => k_extra "zP")))
  k_with "w getMethod ref" => (k_here; (with_reducible show wpAny _ _ (getMethod (Value.ref (TS.x _)) _ _) _ _ _); ((with_reducible (first | apply ms_t_window | apply ms_t_leaf | apply ms_t_touch | apply ms_t_fresh | apply ms_t_select | apply ms_t_least_leaf)); (next => k_extra "zQ")))
  k_with "w k_all" => first | assumption | exact all_succ (by assumption) | exact all_succ2 (by assumption)
  k_with "w subscriptTail" => (k_here; (with_reducible apply it_tail); (next => k_asm); (next => k_extra "zT"); rotate_left; (next => with_unfolding_all rfl))
  k_with "w getItem ref int" => (k_here; (with_reducible apply it_get); (next => k_asm); (next => k_extra "zT"); (next => k_extra "zn"))
  k_with "w getMethod ref" => (k_here; (with_reducible apply it_getm); (next => k_asm); (next => k_extra "zT"))
  k_with "w call builtin:dict.get" => (k_here; (with_reducible apply it_get2); (next => k_asm); (next => k_extra "zT"); (next => k_extra "zn"))
  k_with "w setAttr ref" => (k_here; (with_reducible show wpAny _ _ (setAttr (Value.ref (AD.x (TS.A _ _))) _ (Value.int _ _)) _ _ _); ((with_reducible (first | apply ws_parent | apply ws_left | apply ws_top | apply ws_width | apply ws_height | apply ws_buffer | apply ws_start | apply ws_point | apply ws_hscroll | apply ws_use_time)); (next => k_extra "zP"); intro _ _ _ _ _ _; (try k_sweep)))
  k_with "w setAttr ref" => (k_here; (with_reducible show wpAny _ _ (setAttr (Value.ref (TS.x _)) _ (Value.int _ _)) _ _ _); ((with_reducible (first | apply ws_t_last | apply ws_t_clock | apply ws_t_root | apply ws_t_selected)); (next => k_extra "zX"); intro _ _ _ _ _ _; (try k_sweep)))
  k_with "w exec Raise some none" => (first | (exfalso; omega) | (k_here; (with_reducible show wpAny _ _ (exec (Stmt.Raise (some (Expr.Call (Expr.Name (Str.ofString "LispSignal") _) _ _ _)) none _) _) _ _ _); k_dflt (refine raise_K rfl ?_)))
  k_with "w call ref" => (k_here; k_dflt (refine exc_call (by k_asm) (by k_asm) (by k_asm) ?_); intro _ _ _ _ _ _; refine wpAny_call ?_; k_dflt ktr_enter)
  k_with "w setAttr ref" => (k_here; (with_reducible show wpAny _ _ (setAttr (Value.ref _) (Str.ofString "symbol") _) _ _ _); k_dflt (refine exc_store0 (by k_asm) (by k_asm) (by k_asm) (by assumption) (by exact (sig_facts _).2.2.2.1) (by exact lk_exc _ (.inl rfl)) ?_); intro _ _ _ _ _ _ _ _ _)
  k_with "w setAttr ref" => (k_here; (with_reducible show wpAny _ _ (setAttr (Value.ref _) (Str.ofString "data") _) _ _ _); k_dflt (refine exc_store1 (by k_asm) (by k_asm) (by k_asm) (by assumption) (by assumption) (by assumption) (by assumption) (by exact (sig_facts _).2.2.2.2.1) (by exact lk_exc _ (.inr rfl)) ?_ (by exact Within.cons _ _ Within.nil) (by (rw [sizeLine_eq]; decide))); intro _ _ _ _ _ _)
  k_with "w RaiseK" => (k_here; k_dflt (refine raiseK_intro (by k_asm) (by k_asm) (by k_asm) (by k_mem) ?_))
  k_with "w And" => ((with_reducible show Value.none = Value.none ∧ _); refine ⟨rfl, ?_⟩)
  k_with "zh" => first | exact rfl | assumption
  k_with "zp" => first | k_extra "zT" | exact trivial
  k_with "x exec Try" => (k_here; (with_reducible show wpAny _ _ (exec (Stmt.Try _ (_ :: _) _ [] _) _) _ _ _); refine wpAny_Try_except ?_)
  k_with "x getAttr ref" => (k_here; (with_reducible show wpAny _ _ (getAttr (Value.ref _) (Str.ofString "symbol") _) _ _ _); k_dflt (refine exc_read (by k_asm) (by k_asm) (by k_asm) (by k_mem) (by assumption) (by assumption) (by k_mem) (by assumption) (by assumption) (by rfl) ?_))
  k_with "x bind" => (k_here; (with_reducible show wpAny _ _ (do bindName (envX _ _ _ _ _ _) _ Value.none; unbindBehindTheSuite (envX _ _ _ _ _ _) _ _) _ _ _); k_dflt (refine name_goesX (by k_asm) (by k_asm) ?_); intro _ _ _ _)
  k_with "x FPostM" => (dsimp only [FPostM])
  k_with "x subscriptTail" => (k_here; (with_reducible show wpAny _ _ (subscriptTail _ _ (Value.ref _) (Value.int _ _)) _ _ _); k_extra "sub")
  trivial
local macro_rules | `(tactic| k_qdec) => `(tactic| decide +kernel)
theorem lawT : PySem.Challenge.rw_np0059_01.Holds := by
  k_with "call ref" => refine stop ?_
  k_with "execs" => ((with_reducible show wpAny _ _ (execs (Stmt.For _ _ _ _ _ :: _) _) _ _ _); refine stop ?_)
  refine Mine.hd ?_
  k_go0
  k_steps
  refine go ?_
  rename News _ _ _ _ => lN
  rename IntsAre _ (List.map _ _) => hi8
  refine shut ?_
  intro G9 hG9
  obtain ⟨news, lN1, D0, C0⟩ := deck_open lN hi8 (by simp only [List.length_map, List.length_take]; lia) (by k_ne)
  refine hG9 ?_
  clear lN
  have cell0 := C0 _ (.tail _ (.head _))
  clear C0
  (with_reducible show wpAny _ _ (call (Value.ref 353) _) _ _ _)
  ktr_call 0 (draw_at D0 (by decide) (by decide) 60 _ (by decide) (by decide))
  intro r' news1 h' tk' F' N' P'
  obtain ⟨D1, K1, wd, tw, rfl, w1, w2⟩ := P'
  (try dsimp only)
  k_steps
  refine go ?_
  have cell1 := K1 _ cell0 (by k_ne)
  clear cell0 K1
  (with_reducible show wpAny _ _ (call (Value.ref 353) _) _ _ _)
  ktr_call 0 (draw_at D1 (by decide) (by decide) 40 _ (by decide) (by decide))
  intro r' news2 h' tk' F' N' P'
  obtain ⟨D2, K2, hg, th, rfl, g1, g2⟩ := P'
  have cell2 := K2 _ cell1 (by k_ne)
  clear cell1 K2 D1
  (try dsimp only)
  k_steps
  refine go ?_
  (with_reducible show wpAny _ _ (call (Value.ref 164) _) _ _ _)
  ktr_call 0 (tree_ok (20 + wd) (12 + hg) _ _ _ _ _ (by lia) (by lia))
  intro r' news3 h' tk' F' N' P'
  obtain ⟨S0, e0, d0, FU, hT0, rfl⟩ := P'
  have cm : _ ∈ S0.ex := e0 ▸ List.Mem.tail _ cell2
  have D3 : DeckIn S0.ex _ _ _ := e0 ▸ D2.mono (fun p hp => List.Mem.tail _ hp)
  obtain ⟨lN9, of9⟩ := turn2 N' (hT0.ex cm)
  clear N' cell2 D2
  (try dsimp only)
  k_steps
  refine go ?_
  rename Fr _ _ _ _ => lF
  rename News _ _ _ _ => lN
  obtain ⟨S1, HL⟩ := ls_start (n := 2) hT0 cm D3 (by decide) (by decide) (by k_ne) (by k_ne) FU d0 (by with_reducible assumption)
  refine' law_tail _ ?he ?B ?X ?Tp ?hE ?hE2 (fr_if lF (if_name (by rfl) (if_name (by rfl) rfl))) lN HL (by decide) ?K
  case he => rfl
  case B => k_asm
  case X => k_asm
  case Tp => k_asm
  case hE => passes_own
  case hE2 => (intro e; passes_own)
  case K =>
    intro h' tk' m' F'
    (try dsimp only)
    k_steps
end
end
end Mine

theorem PySem.Challenge.cw_np0059_01_holds : PySem.Challenge.rw_np0059_01.Holds :=
  Mine.lawT
