import PyProof.Rows.All
import Wide.All
import OpenK.AllK
import Wide.FinOn
import Lean
import PySem.Challenge.RW_pq1305_01
open PySem PySem.W PyProof.Rows PySem.Calls PySem.Spec
set_option Elab.async false
namespace Mine
set_option maxRecDepth 100000
set_option maxHeartbeats 8000000
def pick {α : Type} : List Nat → List α → List α
  | [], _ => []
  | i :: is, l => match l[i]? with
    | some x => x :: pick is l
    | none => pick is l
/-- the law's text without the statements that the pins leave loose -/
def view : Program := { PySem.Challenge.pw_pq1305_01 with main := { PySem.Challenge.pw_pq1305_01.main with body := pick [0, 2, 3, 4, 5, 6, 7, 8, 10, 11, 12, 13, 14, 15, 16, 17, 18, 19, 24, 25, 26, 29, 30, 32, 33, 35, 36, 38, 39, 40, 41, 42, 43, 44, 45, 46, 47, 48, 49, 50] PySem.Challenge.pw_pq1305_01.main.body } }
noncomputable abbrev stepQ := PySem.W.Fast.tw10156331382660048174
noncomputable abbrev okQ := PySem.W.Fast.tw6613529449190102663
noncomputable abbrev seenQ := @PySem.W.Fast.tw4187177175401517315
noncomputable abbrev tableQ := PySem.W.Fast.tw14364793385576792824
noncomputable abbrev denQ := PySem.W.Fast.tw11892475500146522536
/-- the top's run over a tree of objects, by the library's quick twins -/
noncomputable def runT (p : Program) (w : World) (n₀ : Nat) (ann : Option Value) : Nat → SharedT → Thread → Option SharedT
  | 0, _, _ => none
  | n + 1, s, t => match through t with
    | true => some s
    | false => match okQ n₀ ann t with
      | false => none
      | true => match stepQ (denQ tableQ) p w s t with
        | some (s', t') => runT p w n₀ ann n s' t'
        | none => none
theorem runT_of {p : Program} {w : World} {n₀ : Nat} {ann : Option Value} : ∀ {n : Nat} {s s' : SharedT} {t : Thread}, runT p w n₀ ann n s t = some s' → topRun treeTable p w n₀ ann n s.abs t = some s'.abs
  | 0, _, _, _, h => by cases h
  | n + 1, s, s', t, h => by
    unfold runT at h
    unfold topRun
    cases he : through t with
    | true => rw [he] at h; cases h; rfl
    | false =>
      rw [he] at h
      dsimp only at h ⊢
      have ek : stepOk n₀ ann t = okQ n₀ ann t := by rw [PySem.W.Fast.te6613529449190102663]
      rw [ek]
      cases hk : okQ n₀ ann t with
      | false => rw [hk] at h; cases h
      | true =>
        rw [hk] at h
        dsimp only at h ⊢
        have e : stepQ (denQ tableQ) p w s t = stepT (denote treeTable) p w s t := by
          rw [PySem.W.Fast.te10156331382660048174, PySem.W.Fast.te11892475500146522536, PySem.W.Fast.te14364793385576792824]
        rw [e] at h
        cases hs : stepT (denote treeTable) p w s t with
        | none => rw [hs] at h; cases h
        | some r => obtain ⟨s₂, t₂⟩ := r; rw [hs] at h; rw [stepT_spec hs]; exact runT_of h
noncomputable def bootT (P : Params) : BT := ((boot_heap P).objs.toList.foldl (fun (x : BT × Nat) o => (x.1.ins x.2 o, x.2 + 1)) (BT.nil, 0)).1
noncomputable def openT (w : World) (os : OsState) : SharedT := ⟨bootT w.params, 11, (boot_heap w.params).life, #[], boot_drawn, boot_toks, os⟩
theorem openT_abs (w : World) (os : OsState) : (openT w os).abs = ⟨boot_heap w.params, #[], boot_drawn, boot_toks, os⟩ := by kernel_rfl
noncomputable def lookT (s : SharedT) (a : Nat) : Option Obj := match Nat.blt a s.n with
  | true => match s.tree.get a with
    | some o => alive o
    | none => none
  | false => none
theorem lookT_ok {s : SharedT} {a : Nat} {o : Obj} (h : lookT s a = some o) : s.abs.heap.get? a = some o := by
  unfold lookT at h
  cases hb : Nat.blt a s.n with
  | false => rw [hb] at h; cases h
  | true =>
    rw [hb] at h
    cases g : s.tree.get a with
    | none => rw [g] at h; cases h
    | some o' =>
      rw [g] at h
      have hl : a < s.n := by
        have := Nat.le_of_ble_eq_true hb
        exact this
      exact (abs_get hl g).trans h
theorem looks_ok {s : SharedT} : ∀ {as : List Nat} {l : Frag}, as.map (lookT s) = l.map (fun p => some p.2) → as.map s.abs.heap.get? = l.map (fun p => some p.2)
  | [], [], _ => rfl
  | [], _ :: _, h => by cases h
  | _ :: _, [], h => by cases h
  | a :: as, p :: l, h => by
    rw [List.map_cons, List.map_cons, List.cons.injEq] at h
    rw [List.map_cons, List.map_cons, looks_ok h.2, lookT_ok h.1]
theorem left_q {p q : Program} {loose : List Str} {Xt : Shared → Bool} {K : Params → Frag} {as : List Addr} {ek : ∀ P, as = (K P).map (·.1)} {N : Nat} {g0 : Bool}
    (e : opening p = plainProg p.main.scope.names) (hN : Nat.ble 600 N = true) (f : ∀ s, fenceModules? p s = some s)
    (h0 : ∀ w : World, ((boot_heap w.params).isNs mainGlobals && (#[] : Array GenState).size == 0, (boot_heap w.params).objs.size, (boot_heap w.params).nsMap mainGlobals "__annotations__") = (true, 11, some (.ref 6)))
    (h1 : ∀ w os, (runT p w 11 (some (.ref 6)) N (openT w os) (topStub p)).map (fun s => (((staticsOk (importedModules p.main.body) (boot_heap w.params) s.abs.heap && namesBound p s.abs.heap && gensDone s.abs && laidKept (boot_heap w.params) s.abs.heap), seenQ q loose (importedModules p.main.body) Xt g0 s.abs), as.map (lookT s))) = some ((true, openGood q loose), (K w.params).map fun p => some p.2)) : LeftO p q loose Xt (Hook.obs (kHook K as ek)) (Hook.val (kHook K as ek)) N g0 := fun w => by
  obtain ⟨⟨h, gs, d, k, os⟩, e1, e2⟩ := Option.map_eq_some_iff.mp (boot_open e hN f w)
  obtain ⟨rfl, rfl, rfl, rfl⟩ : h = boot_heap w.params ∧ gs = #[] ∧ d = boot_drawn ∧ k = boot_toks := by simpa using e2
  have a := h1 w os
  cases es : runT p w 11 (some (.ref 6)) N (openT w os) (topStub p) with
  | none => rw [es] at a; cases a
  | some s =>
    rw [es] at a
    have r := runT_of es
    rw [openT_abs] at r
    have a' := Option.some.inj a
    have a1 := congrArg (fun z => z.1.1) a'
    have a2 := congrArg (fun z => z.1.2) a'
    have b := congrArg (fun z => z.2) a'
    have t : topFrom treeTable p w N ⟨boot_heap w.params, #[], boot_drawn, boot_toks, os⟩ = some s.abs := by
      unfold topFrom
      dsimp only
      obtain ⟨z1, z2, z3⟩ : _ ∧ _ ∧ _ := by simpa only [Prod.mk.injEq] using h0 w
      rw [z1, z2, z3]
      show (topRun treeTable p w 11 (some (.ref 6)) N ⟨boot_heap w.params, #[], boot_drawn, boot_toks, os⟩ (topStub p)).bind _ = _
      rw [r]
      show (match staticsOk (importedModules p.main.body) (boot_heap w.params) s.abs.heap && namesBound p s.abs.heap && gensDone s.abs && laidKept (boot_heap w.params) s.abs.heap with | true => _ | false => _) = _
      have a1' : (staticsOk (importedModules p.main.body) (boot_heap w.params) s.abs.heap && namesBound p s.abs.heap && gensDone s.abs && laidKept (boot_heap w.params) s.abs.heap) = true := a1
      rw [a1']
    unfold openEnds
    rw [e1]
    show (topFrom treeTable p w N _).map _ = _
    rw [t]
    refine congrArg some (Prod.ext ?_ (looks_ok b))
    rw [PySem.W.Fast.te4187177175401517315]
    exact a2
theorem said_q {l : OpenLaw} (h : PySem.W.Fast.tw9446332074065402090 l = true) : l.wellSaid = true := by
  rw [PySem.W.Fast.te9446332074065402090]; exact h
theorem left_0 : opening PySem.Challenge.pw_pq1305_01 = plainProg PySem.Challenge.pw_pq1305_01.main.scope.names := by kernel_rfl
theorem left_f : ∀ s, fenceModules? PySem.Challenge.pw_pq1305_01 s = some s := fun s => by kernel_rfl
theorem left_n : ∀ w : World, ((boot_heap w.params).isNs mainGlobals && (#[] : Array GenState).size == 0, (boot_heap w.params).objs.size, (boot_heap w.params).nsMap mainGlobals "__annotations__") = (true, 11, some (.ref 6)) := fun w => by kernel_rfl
local macro_rules | `(tactic| o_law) => `(tactic| refine holds_law (said_q (by kernel_rfl)) fun said => ?_)
local macro_rules | `(tactic| k_qdec) => `(tactic| decide +kernel)
local macro_rules | `(tactic| o_head $H) => `(tactic| (
  refine holds_open (q := view) (loose := [Str.ofString "SYLLABLES", Str.ofString "cluster_break", Str.ofString "cluster_asked", Str.ofString "cluster_next", Str.ofString "cluster_previous", Str.ofString "cluster_places"]) (Xt := fun s => xlAt view [(Str.ofString "SYLLABLES", WData.int 11172)] s && recOk (RowW.records PySem.Challenge.rw_pq1305_01.row.toRowW) s) (XP := XL view [(Str.ofString "SYLLABLES", WData.int 11172)]) (Yf := Hook.obs $H) (Ya := Hook.val $H) (YP := Hook.says $H) (N := 4430) ?hl (Hook.of $H) (Hook.keeps $H) (fun s e => xl_of s (Bool.and_eq_true_iff.mp e).1) XL.keeps (by rfl) (by rfl) (by rfl) (fun s e => recFacts_of (Bool.and_eq_true_iff.mp e).2) (by rfl) (by first | assumption | decide +kernel) (by decide +kernel) ⟨rfl, rfl, rfl, rfl, rfl, by decide +kernel⟩ ?hw ?hc
  case hl => (exact left_q left_0 (by decide) left_f left_n (fun w os => by kernel_rfl))))
open_top hd for PySem.Challenge.rw_pq1305_01
noncomputable abbrev lv : List Str := looseW view [Str.ofString "SYLLABLES", Str.ofString "cluster_break", Str.ofString "cluster_asked", Str.ofString "cluster_next", Str.ofString "cluster_previous", Str.ofString "cluster_places"]

/-- what stays so when the heap only grows -/
def Mono (P : Heap → Prop) : Prop := ∀ h h' : Heap, h.StaysIn h' → P h → P h'

theorem Mono.top : Mono (fun _ => True) := fun _ _ _ _ => trivial

/-- a def that only reads: its arguments, what it asks of the heap, what it gives back -/
def Ctr (w : World) (f : Addr) (d : Nat) (args : List Value) (P : Heap → Prop) (R : Value → Prop) : Prop :=
  ∀ (mean : ExcName → Option Value) (mg mb : Str → Option Value) (dp un : Nat) (gd : Option (List Code)) (cn : Str) (cs : Scope) (a : Addr) (ccd : Value) (cl : List (Str × Addr)) (outer : List Env) (A₀ : Around) (base h₀ : Heap) (L : Addr) (m : Str → Option Value) (s : Shared) (Q E : Value → Shared → Prop),
    Below A₀ base outer h₀ → Fr h₀ L s.heap m → (hd.heap_1 w.params).In h₀ → Top view lv mean mg mb h₀ → cs.kind = .function → dp + d < recursionLimit → un + 8 * d < cLine → P s.heap →
    (∀ r h' tk', s.heap.StaysIn h' → Fr h₀ L h' m → R r → Q r { s with heap := h', toks := tk' }) →
    wpAny (model PySem.Challenge.rw_pq1305_01.row.prog w) (ktrTop dp un gd cn cs L a ccd cl outer) (call (.ref f) args) Q E s

/-- a body's end -/
def Done (g : Heap) (L : Addr) (s : Shared) (R : Value → Prop) (fl : Flow) (s' : Shared) : Prop :=
  ∃ h' tk' m', s' = { s with heap := h', toks := tk' } ∧ Fr g L h' m' ∧ R (match fl with | .ret v => v | _ => .none)

theorem Done.mk {g : Heap} {L : Addr} {s : Shared} {R : Value → Prop} {fl : Flow} {h' : Heap} {tk' : Nat} {m' : Str → Option Value} (F : Fr g L h' m') (r : R (match fl with | .ret v => v | _ => .none)) : Done g L s R fl { s with heap := h', toks := tk' } := ⟨h', tk', m', rfl, F, r⟩

theorem Ctr.body {w : World} {f : Addr} {d : Nat} {args : List Value} {P : Heap → Prop} {R : Value → Prop} (hP : Mono P)
    {name qual : Str} {params : Arguments} {body : List Stmt} {scope : Scope} {dV kV doc pm cdv ct oc : Value} {an od : Option Addr} {osl : Array (Option Value)} {binds : List (Str × Value)}
    (ho : (hd.heap_1 w.params).lookup f = some ⟨oc, od, .func (fnOf name qual params body scope dV kV doc pm an cdv ct), osl⟩) (hcd : codeIn (hd.heap_1 w.params) cdv qual = true)
    (hbind : ∀ s : Shared, (hd.heap_1 w.params).In s.heap → BindsTo s (fnOf name qual params body scope dV kV doc pm an cdv ct) ⟨args, []⟩ binds) (hloc : ∀ y ∈ binds, scope.names.lookup y.1 = some .local)
    (h : ∀ (mean : ExcName → Option Value) (mg mb : Str → Option Value) (dp un : Nat) (gd : Option (List Code)) (cn : Str) (cs : Scope) (L a : Addr) (ccd : Value) (cl : List (Str × Addr)) (outer : List Env) (A₀ : Around) (base g : Heap) (L' : Addr) (s : Shared),
      Below A₀ base (envX cn cs L a ccd cl :: outer) g → Fr g L' s.heap (fun y => binds.reverse.lookup y) → News g L' s.heap [] → (hd.heap_1 w.params).In g → Top view lv mean mg mb g → dp + d < recursionLimit → un + 8 * d < cLine → P g →
      wpAny (model PySem.Challenge.rw_pq1305_01.row.prog w) ((ktrTop dp un gd cn cs L a ccd cl outer).deeper (envOf qual scope L' f cdv)) (execs body (envOf qual scope L' f cdv)) (Done g L' s R) (fun _ _ => False) s)
    (hcell : ∀ x ∈ scope.names, x.2 ≠ .cell) (hd1 : 0 < d) (hco : scope.isCoroutine = false) (hgen : scope.isGenerator = false) (hk : scope.kind = .function) : Ctr w f d args P R := by
  intro mean mg mb dp un gd cn cs a ccd cl outer A₀ base h₀ L m s Q E B F X T hcs hdp hun hPs ret
  refine wpAny_call ?_
  refine code_defG (env := envX cn cs L a ccd cl) (outer := outer) B F X News.nil T rfl rfl hcs ho hcd (by show dp < recursionLimit; lia) (hbind s (X.keeps F.keep)) hloc ?_ hco hgen hk hcell
  intro g L' h₁ FG F' N' B' X' T' st
  have st' : s.heap.StaysIn g := fun b o e => st b o e (by simp)
  refine wpAny_mono (h mean mg mb dp un gd cn cs L a ccd cl outer _ base g L' _ B' F' N' X' T' hdp hun (hP _ _ st' hPs)) ?_ (fun _ _ x => x.elim)
  rintro fl s' ⟨h', tk', m', rfl, F₂, r⟩
  have stg : s.heap.StaysIn h' := fun b o e => F₂.keep b o (st' b o e)
  refine leaveK_ (m' := m') (news' := []) F₂ News.nil ?_
  intro kF kN
  exact ret _ h' tk' stg kF r


/-- what a call finds around it -/
structure Cx where
  mean : ExcName → Option Value
  mg : Str → Option Value
  mb : Str → Option Value
  dp : Nat
  un : Nat
  gd : Option (List Code)
  cn : Str
  cs : Scope
  L : Addr
  a : Addr
  ccd : Value
  cl : List (Str × Addr)
  outer : List Env
  A₀ : Around
  base : Heap
  g : Heap
  L' : Addr
  s : Shared
def dW : World := ⟨fun _ _ => 0, { strHash := fun _ => 0, shareClass := fun _ => 0, mergeTok := id, idOf := fun _ => 0, idOfShared := fun _ _ => 0, followText := fun _ => false, idOfImm := fun _ => 0 }⟩
def dCx : Cx := ⟨fun _ => none, fun _ => none, fun _ => none, 0, 0, none, default, default, 0, 0, default, [], [], {}, default, default, 0, { heap := default, drawn := {}, toks := 0, os := default }⟩
/-- a counterexample, if there is one: what holds of it holds of all. So a law over variables is a law over closed constants. -/
@[irreducible] noncomputable def eps {α : Type} (d : α) (P : α → Prop) : α := @Classical.epsilon α ⟨d⟩ P
theorem castP {P Q : Prop} (h : P) (e : P = Q) : Q := e ▸ h
theorem eps_all {α : Type} {d : α} {P : α → Prop} {Q : Prop} (q : Q) (e : Q = P (eps d fun p => ¬ P p)) (p : α) : P p := by
  have h : P (eps d fun p => ¬ P p) := e ▸ q
  refine Classical.byContradiction fun hn => ?_
  have : ¬ P (eps d fun p => ¬ P p) := by
    unfold eps
    exact @Classical.epsilon_spec_aux α ⟨d⟩ (fun p => ¬ P p) ⟨p, hn⟩
  exact this h
theorem seal1 {α : Type} (d : α) {P : α → Prop} (h : P (eps d fun x => ¬ P x)) (a : α) : P a := eps_all h rfl a
@[irreducible] noncomputable def sl8_0 {T0 T1 T2 T3 T4 T5 T6 T7 : Type} (d : T0 × T1 × T2 × T3 × T4 × T5 × T6 × T7) (P : T0 → T1 → T2 → T3 → T4 → T5 → T6 → T7 → Prop) : T0 := Prod.fst (eps d fun z => ¬ P (Prod.fst (z)) (Prod.fst (Prod.snd (z))) (Prod.fst (Prod.snd (Prod.snd (z)))) (Prod.fst (Prod.snd (Prod.snd (Prod.snd (z))))) (Prod.fst (Prod.snd (Prod.snd (Prod.snd (Prod.snd (z)))))) (Prod.fst (Prod.snd (Prod.snd (Prod.snd (Prod.snd (Prod.snd (z))))))) (Prod.fst (Prod.snd (Prod.snd (Prod.snd (Prod.snd (Prod.snd (Prod.snd (z)))))))) (Prod.snd (Prod.snd (Prod.snd (Prod.snd (Prod.snd (Prod.snd (Prod.snd (z)))))))))
@[irreducible] noncomputable def sl8_1 {T0 T1 T2 T3 T4 T5 T6 T7 : Type} (d : T0 × T1 × T2 × T3 × T4 × T5 × T6 × T7) (P : T0 → T1 → T2 → T3 → T4 → T5 → T6 → T7 → Prop) : T1 := Prod.fst (Prod.snd (eps d fun z => ¬ P (Prod.fst (z)) (Prod.fst (Prod.snd (z))) (Prod.fst (Prod.snd (Prod.snd (z)))) (Prod.fst (Prod.snd (Prod.snd (Prod.snd (z))))) (Prod.fst (Prod.snd (Prod.snd (Prod.snd (Prod.snd (z)))))) (Prod.fst (Prod.snd (Prod.snd (Prod.snd (Prod.snd (Prod.snd (z))))))) (Prod.fst (Prod.snd (Prod.snd (Prod.snd (Prod.snd (Prod.snd (Prod.snd (z)))))))) (Prod.snd (Prod.snd (Prod.snd (Prod.snd (Prod.snd (Prod.snd (Prod.snd (z))))))))))
@[irreducible] noncomputable def sl8_2 {T0 T1 T2 T3 T4 T5 T6 T7 : Type} (d : T0 × T1 × T2 × T3 × T4 × T5 × T6 × T7) (P : T0 → T1 → T2 → T3 → T4 → T5 → T6 → T7 → Prop) : T2 := Prod.fst (Prod.snd (Prod.snd (eps d fun z => ¬ P (Prod.fst (z)) (Prod.fst (Prod.snd (z))) (Prod.fst (Prod.snd (Prod.snd (z)))) (Prod.fst (Prod.snd (Prod.snd (Prod.snd (z))))) (Prod.fst (Prod.snd (Prod.snd (Prod.snd (Prod.snd (z)))))) (Prod.fst (Prod.snd (Prod.snd (Prod.snd (Prod.snd (Prod.snd (z))))))) (Prod.fst (Prod.snd (Prod.snd (Prod.snd (Prod.snd (Prod.snd (Prod.snd (z)))))))) (Prod.snd (Prod.snd (Prod.snd (Prod.snd (Prod.snd (Prod.snd (Prod.snd (z)))))))))))
@[irreducible] noncomputable def sl8_3 {T0 T1 T2 T3 T4 T5 T6 T7 : Type} (d : T0 × T1 × T2 × T3 × T4 × T5 × T6 × T7) (P : T0 → T1 → T2 → T3 → T4 → T5 → T6 → T7 → Prop) : T3 := Prod.fst (Prod.snd (Prod.snd (Prod.snd (eps d fun z => ¬ P (Prod.fst (z)) (Prod.fst (Prod.snd (z))) (Prod.fst (Prod.snd (Prod.snd (z)))) (Prod.fst (Prod.snd (Prod.snd (Prod.snd (z))))) (Prod.fst (Prod.snd (Prod.snd (Prod.snd (Prod.snd (z)))))) (Prod.fst (Prod.snd (Prod.snd (Prod.snd (Prod.snd (Prod.snd (z))))))) (Prod.fst (Prod.snd (Prod.snd (Prod.snd (Prod.snd (Prod.snd (Prod.snd (z)))))))) (Prod.snd (Prod.snd (Prod.snd (Prod.snd (Prod.snd (Prod.snd (Prod.snd (z))))))))))))
@[irreducible] noncomputable def sl8_4 {T0 T1 T2 T3 T4 T5 T6 T7 : Type} (d : T0 × T1 × T2 × T3 × T4 × T5 × T6 × T7) (P : T0 → T1 → T2 → T3 → T4 → T5 → T6 → T7 → Prop) : T4 := Prod.fst (Prod.snd (Prod.snd (Prod.snd (Prod.snd (eps d fun z => ¬ P (Prod.fst (z)) (Prod.fst (Prod.snd (z))) (Prod.fst (Prod.snd (Prod.snd (z)))) (Prod.fst (Prod.snd (Prod.snd (Prod.snd (z))))) (Prod.fst (Prod.snd (Prod.snd (Prod.snd (Prod.snd (z)))))) (Prod.fst (Prod.snd (Prod.snd (Prod.snd (Prod.snd (Prod.snd (z))))))) (Prod.fst (Prod.snd (Prod.snd (Prod.snd (Prod.snd (Prod.snd (Prod.snd (z)))))))) (Prod.snd (Prod.snd (Prod.snd (Prod.snd (Prod.snd (Prod.snd (Prod.snd (z)))))))))))))
@[irreducible] noncomputable def sl8_5 {T0 T1 T2 T3 T4 T5 T6 T7 : Type} (d : T0 × T1 × T2 × T3 × T4 × T5 × T6 × T7) (P : T0 → T1 → T2 → T3 → T4 → T5 → T6 → T7 → Prop) : T5 := Prod.fst (Prod.snd (Prod.snd (Prod.snd (Prod.snd (Prod.snd (eps d fun z => ¬ P (Prod.fst (z)) (Prod.fst (Prod.snd (z))) (Prod.fst (Prod.snd (Prod.snd (z)))) (Prod.fst (Prod.snd (Prod.snd (Prod.snd (z))))) (Prod.fst (Prod.snd (Prod.snd (Prod.snd (Prod.snd (z)))))) (Prod.fst (Prod.snd (Prod.snd (Prod.snd (Prod.snd (Prod.snd (z))))))) (Prod.fst (Prod.snd (Prod.snd (Prod.snd (Prod.snd (Prod.snd (Prod.snd (z)))))))) (Prod.snd (Prod.snd (Prod.snd (Prod.snd (Prod.snd (Prod.snd (Prod.snd (z))))))))))))))
@[irreducible] noncomputable def sl8_6 {T0 T1 T2 T3 T4 T5 T6 T7 : Type} (d : T0 × T1 × T2 × T3 × T4 × T5 × T6 × T7) (P : T0 → T1 → T2 → T3 → T4 → T5 → T6 → T7 → Prop) : T6 := Prod.fst (Prod.snd (Prod.snd (Prod.snd (Prod.snd (Prod.snd (Prod.snd (eps d fun z => ¬ P (Prod.fst (z)) (Prod.fst (Prod.snd (z))) (Prod.fst (Prod.snd (Prod.snd (z)))) (Prod.fst (Prod.snd (Prod.snd (Prod.snd (z))))) (Prod.fst (Prod.snd (Prod.snd (Prod.snd (Prod.snd (z)))))) (Prod.fst (Prod.snd (Prod.snd (Prod.snd (Prod.snd (Prod.snd (z))))))) (Prod.fst (Prod.snd (Prod.snd (Prod.snd (Prod.snd (Prod.snd (Prod.snd (z)))))))) (Prod.snd (Prod.snd (Prod.snd (Prod.snd (Prod.snd (Prod.snd (Prod.snd (z)))))))))))))))
@[irreducible] noncomputable def sl8_7 {T0 T1 T2 T3 T4 T5 T6 T7 : Type} (d : T0 × T1 × T2 × T3 × T4 × T5 × T6 × T7) (P : T0 → T1 → T2 → T3 → T4 → T5 → T6 → T7 → Prop) : T7 := Prod.snd (Prod.snd (Prod.snd (Prod.snd (Prod.snd (Prod.snd (Prod.snd (eps d fun z => ¬ P (Prod.fst (z)) (Prod.fst (Prod.snd (z))) (Prod.fst (Prod.snd (Prod.snd (z)))) (Prod.fst (Prod.snd (Prod.snd (Prod.snd (z))))) (Prod.fst (Prod.snd (Prod.snd (Prod.snd (Prod.snd (z)))))) (Prod.fst (Prod.snd (Prod.snd (Prod.snd (Prod.snd (Prod.snd (z))))))) (Prod.fst (Prod.snd (Prod.snd (Prod.snd (Prod.snd (Prod.snd (Prod.snd (z)))))))) (Prod.snd (Prod.snd (Prod.snd (Prod.snd (Prod.snd (Prod.snd (Prod.snd (z)))))))))))))))
theorem seal8 {T0 T1 T2 T3 T4 T5 T6 T7 : Type} (d : T0 × T1 × T2 × T3 × T4 × T5 × T6 × T7) {P : T0 → T1 → T2 → T3 → T4 → T5 → T6 → T7 → Prop} (h : P (sl8_0 d P) (sl8_1 d P) (sl8_2 d P) (sl8_3 d P) (sl8_4 d P) (sl8_5 d P) (sl8_6 d P) (sl8_7 d P)) : ∀ a0 a1 a2 a3 a4 a5 a6 a7, P a0 a1 a2 a3 a4 a5 a6 a7 := by
  delta sl8_0 sl8_1 sl8_2 sl8_3 sl8_4 sl8_5 sl8_6 sl8_7 at h
  exact fun a0 a1 a2 a3 a4 a5 a6 a7 => @seal1 (T0 × T1 × T2 × T3 × T4 × T5 × T6 × T7) d (fun z => P (Prod.fst (z)) (Prod.fst (Prod.snd (z))) (Prod.fst (Prod.snd (Prod.snd (z)))) (Prod.fst (Prod.snd (Prod.snd (Prod.snd (z))))) (Prod.fst (Prod.snd (Prod.snd (Prod.snd (Prod.snd (z)))))) (Prod.fst (Prod.snd (Prod.snd (Prod.snd (Prod.snd (Prod.snd (z))))))) (Prod.fst (Prod.snd (Prod.snd (Prod.snd (Prod.snd (Prod.snd (Prod.snd (z)))))))) (Prod.snd (Prod.snd (Prod.snd (Prod.snd (Prod.snd (Prod.snd (Prod.snd (z))))))))) h (a0, a1, a2, a3, a4, a5, a6, a7)
@[irreducible] noncomputable def sl5_0 {T0 T1 T2 T3 T4 : Type} (d : T0 × T1 × T2 × T3 × T4) (P : T0 → T1 → T2 → T3 → T4 → Prop) : T0 := Prod.fst (eps d fun z => ¬ P (Prod.fst (z)) (Prod.fst (Prod.snd (z))) (Prod.fst (Prod.snd (Prod.snd (z)))) (Prod.fst (Prod.snd (Prod.snd (Prod.snd (z))))) (Prod.snd (Prod.snd (Prod.snd (Prod.snd (z))))))
@[irreducible] noncomputable def sl5_1 {T0 T1 T2 T3 T4 : Type} (d : T0 × T1 × T2 × T3 × T4) (P : T0 → T1 → T2 → T3 → T4 → Prop) : T1 := Prod.fst (Prod.snd (eps d fun z => ¬ P (Prod.fst (z)) (Prod.fst (Prod.snd (z))) (Prod.fst (Prod.snd (Prod.snd (z)))) (Prod.fst (Prod.snd (Prod.snd (Prod.snd (z))))) (Prod.snd (Prod.snd (Prod.snd (Prod.snd (z)))))))
@[irreducible] noncomputable def sl5_2 {T0 T1 T2 T3 T4 : Type} (d : T0 × T1 × T2 × T3 × T4) (P : T0 → T1 → T2 → T3 → T4 → Prop) : T2 := Prod.fst (Prod.snd (Prod.snd (eps d fun z => ¬ P (Prod.fst (z)) (Prod.fst (Prod.snd (z))) (Prod.fst (Prod.snd (Prod.snd (z)))) (Prod.fst (Prod.snd (Prod.snd (Prod.snd (z))))) (Prod.snd (Prod.snd (Prod.snd (Prod.snd (z))))))))
@[irreducible] noncomputable def sl5_3 {T0 T1 T2 T3 T4 : Type} (d : T0 × T1 × T2 × T3 × T4) (P : T0 → T1 → T2 → T3 → T4 → Prop) : T3 := Prod.fst (Prod.snd (Prod.snd (Prod.snd (eps d fun z => ¬ P (Prod.fst (z)) (Prod.fst (Prod.snd (z))) (Prod.fst (Prod.snd (Prod.snd (z)))) (Prod.fst (Prod.snd (Prod.snd (Prod.snd (z))))) (Prod.snd (Prod.snd (Prod.snd (Prod.snd (z)))))))))
@[irreducible] noncomputable def sl5_4 {T0 T1 T2 T3 T4 : Type} (d : T0 × T1 × T2 × T3 × T4) (P : T0 → T1 → T2 → T3 → T4 → Prop) : T4 := Prod.snd (Prod.snd (Prod.snd (Prod.snd (eps d fun z => ¬ P (Prod.fst (z)) (Prod.fst (Prod.snd (z))) (Prod.fst (Prod.snd (Prod.snd (z)))) (Prod.fst (Prod.snd (Prod.snd (Prod.snd (z))))) (Prod.snd (Prod.snd (Prod.snd (Prod.snd (z)))))))))
theorem seal5 {T0 T1 T2 T3 T4 : Type} (d : T0 × T1 × T2 × T3 × T4) {P : T0 → T1 → T2 → T3 → T4 → Prop} (h : P (sl5_0 d P) (sl5_1 d P) (sl5_2 d P) (sl5_3 d P) (sl5_4 d P)) : ∀ a0 a1 a2 a3 a4, P a0 a1 a2 a3 a4 := by
  delta sl5_0 sl5_1 sl5_2 sl5_3 sl5_4 at h
  exact fun a0 a1 a2 a3 a4 => @seal1 (T0 × T1 × T2 × T3 × T4) d (fun z => P (Prod.fst (z)) (Prod.fst (Prod.snd (z))) (Prod.fst (Prod.snd (Prod.snd (z)))) (Prod.fst (Prod.snd (Prod.snd (Prod.snd (z))))) (Prod.snd (Prod.snd (Prod.snd (Prod.snd (z)))))) h (a0, a1, a2, a3, a4)
@[irreducible] noncomputable def sl3_0 {T0 T1 T2 : Type} (d : T0 × T1 × T2) (P : T0 → T1 → T2 → Prop) : T0 := Prod.fst (eps d fun z => ¬ P (Prod.fst (z)) (Prod.fst (Prod.snd (z))) (Prod.snd (Prod.snd (z))))
@[irreducible] noncomputable def sl3_1 {T0 T1 T2 : Type} (d : T0 × T1 × T2) (P : T0 → T1 → T2 → Prop) : T1 := Prod.fst (Prod.snd (eps d fun z => ¬ P (Prod.fst (z)) (Prod.fst (Prod.snd (z))) (Prod.snd (Prod.snd (z)))))
@[irreducible] noncomputable def sl3_2 {T0 T1 T2 : Type} (d : T0 × T1 × T2) (P : T0 → T1 → T2 → Prop) : T2 := Prod.snd (Prod.snd (eps d fun z => ¬ P (Prod.fst (z)) (Prod.fst (Prod.snd (z))) (Prod.snd (Prod.snd (z)))))
theorem seal3 {T0 T1 T2 : Type} (d : T0 × T1 × T2) {P : T0 → T1 → T2 → Prop} (h : P (sl3_0 d P) (sl3_1 d P) (sl3_2 d P)) : ∀ a0 a1 a2, P a0 a1 a2 := by
  delta sl3_0 sl3_1 sl3_2 at h
  exact fun a0 a1 a2 => @seal1 (T0 × T1 × T2) d (fun z => P (Prod.fst (z)) (Prod.fst (Prod.snd (z))) (Prod.snd (Prod.snd (z)))) h (a0, a1, a2)
@[irreducible] noncomputable def sl2_0 {T0 T1 : Type} (d : T0 × T1) (P : T0 → T1 → Prop) : T0 := Prod.fst (eps d fun z => ¬ P (Prod.fst (z)) (Prod.snd (z)))
@[irreducible] noncomputable def sl2_1 {T0 T1 : Type} (d : T0 × T1) (P : T0 → T1 → Prop) : T1 := Prod.snd (eps d fun z => ¬ P (Prod.fst (z)) (Prod.snd (z)))
theorem seal2 {T0 T1 : Type} (d : T0 × T1) {P : T0 → T1 → Prop} (h : P (sl2_0 d P) (sl2_1 d P)) : ∀ a0 a1, P a0 a1 := by
  delta sl2_0 sl2_1 at h
  exact fun a0 a1 => @seal1 (T0 × T1) d (fun z => P (Prod.fst (z)) (Prod.snd (z))) h (a0, a1)
/-- a fact that says nothing: what stands behind it in the context is not sealed yet -/
@[irreducible] def Rim : Prop := True
theorem Rim.mk : Rim := by unfold Rim; exact trivial
@[irreducible] def Dm : Prop := True
theorem Dm.mk : Dm := by unfold Dm; exact trivial
def dHp : Heap := default
def dHT : Heap × Nat := (default, 0)
theorem Ctr.bodyX {w : World} {f : Addr} {d : Nat} {args : List Value} {P : Heap → Prop} {R : Value → Prop} (hP : Mono P)
    {name qual : Str} {params : Arguments} {body : List Stmt} {scope : Scope} {dV kV doc pm cdv ct oc : Value} {an od : Option Addr} {osl : Array (Option Value)} {binds : List (Str × Value)}
    (ho : (hd.heap_1 w.params).lookup f = some ⟨oc, od, .func (fnOf name qual params body scope dV kV doc pm an cdv ct), osl⟩) (hcd : codeIn (hd.heap_1 w.params) cdv qual = true)
    (hbind : ∀ s : Shared, (hd.heap_1 w.params).In s.heap → BindsTo s (fnOf name qual params body scope dV kV doc pm an cdv ct) ⟨args, []⟩ binds) (hloc : ∀ y ∈ binds, scope.names.lookup y.1 = some .local)
    (h : ∀ q : Cx, Below q.A₀ q.base (envX q.cn q.cs q.L q.a q.ccd q.cl :: q.outer) q.g → Fr q.g q.L' q.s.heap (fun y => binds.reverse.lookup y) → News q.g q.L' q.s.heap [] → (hd.heap_1 w.params).In q.g → Top view lv q.mean q.mg q.mb q.g → q.dp + d < recursionLimit → q.un + 8 * d < cLine → P q.g →
      wpAny (model PySem.Challenge.rw_pq1305_01.row.prog w) ((ktrTop q.dp q.un q.gd q.cn q.cs q.L q.a q.ccd q.cl q.outer).deeper (envOf qual scope q.L' f cdv)) (execs body (envOf qual scope q.L' f cdv)) (Done q.g q.L' q.s R) (fun _ _ => False) q.s)
    (hcell : ∀ x ∈ scope.names, x.2 ≠ .cell) (hd1 : 0 < d) (hco : scope.isCoroutine = false) (hgen : scope.isGenerator = false) (hk : scope.kind = .function) : Ctr w f d args P R :=
  Ctr.body hP ho hcd hbind hloc (fun mean mg mb dp un gd cn cs L a ccd cl outer A₀ base g L' s => h ⟨mean, mg, mb, dp, un, gd, cn, cs, L, a, ccd, cl, outer, A₀, base, g, L', s⟩) hcell hd1 hco hgen hk

theorem news_stays {h₀ h h' : Heap} {L : Addr} {news : List (Addr × Obj)} (N : News h₀ L h news) (st : h.StaysIn h') : News h₀ L h' news := fun p hp => ⟨st _ _ (N p hp).1, (N p hp).2⟩

theorem Ctr.use {w : World} {f : Addr} {d : Nat} {args : List Value} {P : Heap → Prop} {R : Value → Prop} (C : Ctr w f d args P R)
    {mean : ExcName → Option Value} {mg mb : Str → Option Value} {dp un : Nat} {gd : Option (List Code)} {cn : Str} {cs : Scope} {a : Addr} {ccd : Value} {cl : List (Str × Addr)} {outer : List Env} {A₀ : Around} {base h₀ : Heap} {L : Addr} {m : Str → Option Value} {s : Shared} {Q E : Value → Shared → Prop} {news : List (Addr × Obj)}
    (B : Below A₀ base outer h₀) (F : Fr h₀ L s.heap m) (X : (hd.heap_1 w.params).In h₀) (N : News h₀ L s.heap news) (T : Top view lv mean mg mb h₀) (hk : cs.kind = .function) (hP : P s.heap) (hd : dp + d < recursionLimit) (hu : un + 8 * d < cLine)
    (ret : ∀ r h' tk', s.heap.StaysIn h' → Fr h₀ L h' m → News h₀ L h' news → R r → Q r { s with heap := h', toks := tk' }) :
    wpAny (model PySem.Challenge.rw_pq1305_01.row.prog w) (ktrTop dp un gd cn cs L a ccd cl outer) (call (.ref f) args) Q E s :=
  C mean mg mb dp un gd cn cs a ccd cl outer A₀ base h₀ L m s Q E B F X T hk hd hu hP fun r h' tk' st F' r' => ret r h' tk' st F' (news_stays N st) r'

theorem Ctr.imp {w : World} {f : Addr} {d : Nat} {args : List Value} {P : Heap → Prop} {R R' : Value → Prop} (C : Ctr w f d args P R) (k : ∀ v, R v → R' v) : Ctr w f d args P R' :=
  fun mean mg mb dp un gd cn cs a ccd cl outer A₀ base h₀ L m s Q E B F X T hk hd hu hP ret => C mean mg mb dp un gd cn cs a ccd cl outer A₀ base h₀ L m s Q E B F X T hk hd hu hP fun r h' tk' st F' r' => ret r h' tk' st F' (k r r')
/-- the use where the value is told -/
theorem Ctr.useV {w : World} {f : Addr} {d : Nat} {args : List Value} {P : Heap → Prop} {x : Value} (C : Ctr w f d args P (fun v => v = x))
    {mean : ExcName → Option Value} {mg mb : Str → Option Value} {dp un : Nat} {gd : Option (List Code)} {cn : Str} {cs : Scope} {a : Addr} {ccd : Value} {cl : List (Str × Addr)} {outer : List Env} {A₀ : Around} {base h₀ : Heap} {L : Addr} {m : Str → Option Value} {s : Shared} {Q E : Value → Shared → Prop} {news : List (Addr × Obj)}
    (B : Below A₀ base outer h₀) (F : Fr h₀ L s.heap m) (X : (hd.heap_1 w.params).In h₀) (N : News h₀ L s.heap news) (T : Top view lv mean mg mb h₀) (hk : cs.kind = .function) (hP : P s.heap) (hd : dp + d < recursionLimit) (hu : un + 8 * d < cLine)
    (ret : ∀ h' tk', s.heap.StaysIn h' → Fr h₀ L h' m → News h₀ L h' news → Q x { s with heap := h', toks := tk' }) :
    wpAny (model PySem.Challenge.rw_pq1305_01.row.prog w) (ktrTop dp un gd cn cs L a ccd cl outer) (call (.ref f) args) Q E s :=
  C.use B F X N T hk hP hd hu fun r h' tk' st F' N' e => by subst e; exact ret h' tk' st F' N'
/-- the use where the value is told but for a token -/
theorem Ctr.useT {w : World} {f : Addr} {d : Nat} {args : List Value} {P : Heap → Prop} {α : Type} {x : α → Value} (C : Ctr w f d args P (fun v => ∃ t, v = x t))
    {mean : ExcName → Option Value} {mg mb : Str → Option Value} {dp un : Nat} {gd : Option (List Code)} {cn : Str} {cs : Scope} {a : Addr} {ccd : Value} {cl : List (Str × Addr)} {outer : List Env} {A₀ : Around} {base h₀ : Heap} {L : Addr} {m : Str → Option Value} {s : Shared} {Q E : Value → Shared → Prop} {news : List (Addr × Obj)}
    (B : Below A₀ base outer h₀) (F : Fr h₀ L s.heap m) (X : (hd.heap_1 w.params).In h₀) (N : News h₀ L s.heap news) (T : Top view lv mean mg mb h₀) (hk : cs.kind = .function) (hP : P s.heap) (hd : dp + d < recursionLimit) (hu : un + 8 * d < cLine)
    (ret : ∀ t h' tk', s.heap.StaysIn h' → Fr h₀ L h' m → News h₀ L h' news → Q (x t) { s with heap := h', toks := tk' }) :
    wpAny (model PySem.Challenge.rw_pq1305_01.row.prog w) (ktrTop dp un gd cn cs L a ccd cl outer) (call (.ref f) args) Q E s :=
  C.use B F X N T hk hP hd hu fun r h' tk' st F' N' e => by obtain ⟨t, e⟩ := e; subst e; exact ret t h' tk' st F' N'

theorem topTup {K : Frag} {h₀ h : Heap} {L a : Addr} {m : Str → Option Value} {d : Option Addr} {items : Array Value} {n : Nat} {sl : Array (Option Value)} (X : K.In h₀) (F : Fr h₀ L h m) (e : K.lookup a = some ⟨.type "tuple", d, .seq items n, sl⟩) : IsTup h a items :=
  ⟨_, F.keep _ _ (X _ _ e), rfl, _, rfl⟩
local macro_rules | `(tactic| walk_at "KswEnd") => `(tactic| k_extra "@KswEnd")
local macro_rules | `(tactic| walk_at "exec While Compare cons nil") => `(tactic| k_extra "@exec While Compare cons nil")
local macro_rules | `(tactic| walk_at "exec While BoolOp cons nil") => `(tactic| k_extra "@exec While BoolOp cons nil")
local macro_rules | `(tactic| walk_at "compareOp In str ref") => `(tactic| k_extra "@compareOp In str ref")
local macro_rules | `(tactic| k_steps) => `(tactic| repeat' (first | (k_unfold; (try dsimp only)) | (k_end; (fail_if_success k_extra "noclose"); wrow_close) | k_extra "seal" | k_extra "split" | walk1 | (dsimp only; walk1) | (leave1; (try dsimp only)) | fail "no step"))
local  macro_rules | `(tactic| walk_at "callWith ref") => `(tactic| k_extra "k0")
def joins (l r : Str) : Bool :=
  if l == Str.ofString "L" then [Str.ofString "L", Str.ofString "V", Str.ofString "LV", Str.ofString "LVT"].any (fun x => x == r)
  else if [Str.ofString "LV", Str.ofString "V"].any (fun x => x == l) then [Str.ofString "V", Str.ofString "T"].any (fun x => x == r)
  else [Str.ofString "LVT", Str.ofString "T"].any (fun x => x == l) && (r == Str.ofString "T")

theorem c_joins : ∀ (w : World) (l : Str) (r : Str) (t1 : Tok) (t2 : Tok), Ctr w 52 1 [.str l t1, .str r t2] (fun _ => True) (fun v => v = .bool (joins l r)) := by
  intro w l r t1 t2
  k_dflt (refine' Ctr.bodyX Mono.top (binds := [(Str.ofString "left", .str l t1), (Str.ofString "right", .str r t2)]) ?ho ?hcd ?hbind ?hloc ?h ?hcell ?hd1 ?hco ?hgen ?hk; (case ho => k_is); (case hcd => k_is); (case hbind => first | exact fun _ _ => BindsTo.of_eq rfl | exact fun _ X' => binds_K X' rfl (by k_is) rfl rfl rfl); (case hloc => exact locs rfl); (case hcell => decide); (case hd1 => decide); (case hco => exact rfl); (case hgen => exact rfl); (case hk => exact rfl))
  intro kx
  revert w l r t1 t2 kx
  refine seal5 (dW, default, default, default, default) ?_
  generalize sl5_0 _ _ = w, sl5_1 _ _ = l, sl5_2 _ _ = r, sl5_3 _ _ = t1, sl5_4 _ _ = t2
  refine seal1 (dCx) ?_
  generalize eps _ _ = kx
  w_top off
  intro B F N X T hdp hun hP
  have _ : Dm := Dm.mk
  have _ : Rim := Rim.mk
  k_with_none
  k_with "k0" => (k_here; (with_reducible show wpAny _ _ (callWith _ (Value.ref _) _ (backTo _ (starEach [] _)) []) _ _ _); k_dflt (refine' callWith_K0 ?k1_q9 ?k2_q9 ?_; (case k1_q9 => first | with_reducible assumption | exact Frag.In.keeps (by with_reducible assumption) (Fr.keep (by with_reducible assumption))); (case k2_q9 => k_is); k_whole))
  k_with "fold" => (k_fold; (with_reducible rename Dm => d9); revert d9; revert ek; revert qk; intro qk ek _)
  k_with "seal0" => k_extra "seal"
  k_with "seal" =>
    (with_reducible show wpAny _ _ (execs (_ :: _) _) _ _ _)
    (try k_extra "preseal")
    (fail_if_success (have y9 := ‹_›; (with_reducible have y8 : Rim := y9)))
    (repeat ((fail_if_success (have y9 := ‹_›; (with_reducible have y8 : Rim := y9))); first | ((fail_if_success (have y9 := ‹_›; have y8 : (_ : Prop) := y9)); clear (‹_›)) | revert (‹_›)))
    (repeat (first
      | ((with_reducible refine seal2 dHT ?_); (generalize sl2_0 _ _ = z8, sl2_1 _ _ = z7))
      | ((with_reducible refine seal1 dHp ?_); (generalize eps _ _ = z8))
      | ((with_reducible refine seal1 (0 : Nat) ?_); (generalize eps _ _ = z8))
      | ((with_reducible refine seal1 default ?_); (generalize eps _ _ = z8))
      | (with_reducible intro _)))
    ((with_reducible rename Rim => m9); revert m9; intro _)

  ((try ((with_reducible rename Rim => m9); revert m9; intro _)); k_steps)
  all_goals (try dsimp only)
  all_goals refine Done.mk (by assumption) ?_
  all_goals (show Value.bool _ = Value.bool _; congr 1)
  all_goals (simp_all only [joins, if_true, if_false, Bool.true_and, Bool.false_and, Bool.false_eq_true])
local macro_rules | `(tactic| walk_at "call ref") => `(tactic| k_extra "@call ref")
def ends : List Str := [Str.ofString "CR", Str.ofString "LF", Str.ofString "Control"]
def marks : List Str := [Str.ofString "Extend", Str.ofString "ZWJ"]
def pairS (l r : Str) (leg : Bool) : Option Bool :=
  if (l == Str.ofString "CR") = true ∧ (r == Str.ofString "LF") = true then some false
  else if [Str.ofString "CR", Str.ofString "LF", Str.ofString "Control"].any (fun x => x == l) = true ∨ [Str.ofString "CR", Str.ofString "LF", Str.ofString "Control"].any (fun x => x == r) = true then some true
  else if joins l r = true ∨ [Str.ofString "Extend", Str.ofString "ZWJ"].any (fun x => x == r) = true then some false
  else if leg = false ∧ ((r == Str.ofString "SpacingMark") = true ∨ (l == Str.ofString "Prepend") = true) then some false
  else none
def optV : Option Bool → Value
  | none => .none
  | some b => .bool b

theorem c_pair : ∀ (w : World) (l : Str) (r : Str) (leg : Bool) (t1 : Tok) (t2 : Tok), Ctr w 59 2 [.str l t1, .str r t2, .bool leg] (fun _ => True) (fun v => v = optV (pairS l r leg)) := by
  intro w l r leg t1 t2
  k_dflt (refine' Ctr.bodyX Mono.top (binds := [(Str.ofString "left", .str l t1), (Str.ofString "right", .str r t2), (Str.ofString "is_legacy", .bool leg)]) ?ho ?hcd ?hbind ?hloc ?h ?hcell ?hd1 ?hco ?hgen ?hk; (case ho => k_is); (case hcd => k_is); (case hbind => first | exact fun _ _ => BindsTo.of_eq rfl | exact fun _ X' => binds_K X' rfl (by k_is) rfl rfl rfl); (case hloc => exact locs rfl); (case hcell => decide); (case hd1 => decide); (case hco => exact rfl); (case hgen => exact rfl); (case hk => exact rfl))
  intro kx
  revert w l r leg t1 t2 kx
  refine seal5 (dW, default, default, default, default) ?_
  generalize sl5_0 _ _ = w, sl5_1 _ _ = l, sl5_2 _ _ = r, sl5_3 _ _ = leg, sl5_4 _ _ = t1
  refine seal2 (default, dCx) ?_
  generalize sl2_0 _ _ = t2, sl2_1 _ _ = kx
  intro B F N X T hdp hun hP
  have _ : Dm := Dm.mk
  have _ : Rim := Rim.mk
  k_with_none
  k_with "@compareOp In str ref" => ((k_here; (with_reducible show wpAny _ _ (compareOp CmpOp.In (Value.str _ _) (Value.ref _)) _ _ _); k_dflt (refine' in_tuple_strs (topTup (by k_asm) (by k_asm) ?e_q9) ?k2_q9 ?_; (case e_q9 => k_is); (case k2_q9 => (repeat constructor); done))))
  k_with "@call ref" => ((k_here; (with_reducible show wpAny _ _ (call (Value.ref 52) _) _ _ _); k_dflt (refine' Ctr.useV (c_joins _ _ _ _ _) ?k1_q9 ?k2_q9 ?k3_q9 ?k4_q9 ?k5_q9 ?k6_q9 ?k7_q9 ?k8_q9 ?k9_q9 ?_; (case k1_q9 => k_asm); (case k2_q9 => k_asm); (case k3_q9 => k_asm); (case k4_q9 => k_asm); (case k5_q9 => k_asm); (case k6_q9 => first | exact rfl | assumption); (case k7_q9 => trivial); (case k8_q9 => ktr_room); (case k9_q9 => ktr_units)); intro h9 tk9 st9 F9 N9; (try k_sweep); (try k_fold)); (all_goals (try ((with_reducible show wpAny _ _ _ _ _ _); (try revert h9); (try revert tk9); (try revert st9); (try revert F9); (try revert N9); intros))))
  k_with "k0" => (k_here; (with_reducible show wpAny _ _ (callWith _ (Value.ref _) _ (backTo _ (starEach [] _)) []) _ _ _); k_dflt (refine' callWith_K0 ?k1_q9 ?k2_q9 ?_; (case k1_q9 => first | with_reducible assumption | exact Frag.In.keeps (by with_reducible assumption) (Fr.keep (by with_reducible assumption))); (case k2_q9 => k_is); k_whole))
  k_with "fold" => (k_fold; (with_reducible rename Dm => d9); revert d9; revert ek; revert qk; intro qk ek _)
  k_with "seal0" => k_extra "seal"
  k_with "seal" =>
    (with_reducible show wpAny _ _ (execs (_ :: _) _) _ _ _)
    (try k_extra "preseal")
    (fail_if_success (have y9 := ‹_›; (with_reducible have y8 : Rim := y9)))
    (repeat ((fail_if_success (have y9 := ‹_›; (with_reducible have y8 : Rim := y9))); first | ((fail_if_success (have y9 := ‹_›; have y8 : (_ : Prop) := y9)); clear (‹_›)) | revert (‹_›)))
    (repeat (first
      | ((with_reducible refine seal2 dHT ?_); (generalize sl2_0 _ _ = z8, sl2_1 _ _ = z7))
      | ((with_reducible refine seal1 dHp ?_); (generalize eps _ _ = z8))
      | ((with_reducible refine seal1 (0 : Nat) ?_); (generalize eps _ _ = z8))
      | ((with_reducible refine seal1 default ?_); (generalize eps _ _ = z8))
      | (with_reducible intro _)))
    ((with_reducible rename Rim => m9); revert m9; intro _)

  ((try ((with_reducible rename Rim => m9); revert m9; intro _)); k_steps)
  all_goals (try dsimp only)
  all_goals refine Done.mk (by assumption) ?_
  all_goals (try dsimp only)
  all_goals simp_all [pairS, optV]

def cnt (st : List Int) (c : Int) : Nat := (st.filter (fun x => decide (x ≤ c))).length
theorem cnt_le (st : List Int) (c : Int) : cnt st c ≤ st.length := List.length_filter_le _ _
theorem cnt_zero {c : Int} : ∀ {st : List Int}, (∀ x ∈ st, c < x) → cnt st c = 0
  | [], _ => rfl
  | x :: r, h => by
    have h1 : ¬ x ≤ c := by have := h x (.head _); lia
    have h2 := cnt_zero (st := r) fun y hy => h y (.tail _ hy)
    simpa [cnt, h1] using h2
theorem lt_cnt_iff {c : Int} : ∀ {st : List Int} {i : Nat}, st.Pairwise (· < ·) → i < st.length → (st.getD i 0 ≤ c ↔ i < cnt st c)
  | [], _, _, h => by simp at h
  | x :: r, i, hs, h => by
    rw [List.pairwise_cons] at hs
    by_cases hx : x ≤ c
    · have e : cnt (x :: r) c = cnt r c + 1 := by simp [cnt, hx]
      cases i with
      | zero => simp [e, hx]
      | succ i =>
        have := lt_cnt_iff (c := c) (st := r) (i := i) hs.2 (by simpa using h)
        rw [e]
        simp only [List.getD_cons_succ]
        rw [this]; lia
    · have e : cnt (x :: r) c = 0 := cnt_zero fun y hy => by
        rcases List.mem_cons.mp hy with rfl | hy
        · lia
        · have := hs.1 y hy; lia
      rw [e]
      cases i with
      | zero => simp [hx]
      | succ i =>
        have hi : i < r.length := by simpa using h
        have hm : r.getD i 0 ∈ r := by rw [List.getD_eq_getElem?_getD, List.getElem?_eq_getElem hi]; exact List.getElem_mem hi
        have := hs.1 _ hm
        simp only [List.getD_cons_succ]
        lia
theorem half_mid {low high : Int} (h : low < high) : low ≤ (low + high).fdiv 2 ∧ (low + high).fdiv 2 < high := by
  rw [Int.fdiv_eq_ediv_of_nonneg _ (by decide)]; lia

theorem int_ex {x y : Int} {t : Tok} (h : x = y) : ∃ u, Value.int x t = Value.int y u := ⟨t, by rw [h]⟩
theorem c_half : ∀ (w : World) (a : Addr) (vs : List Value) (st : List Int) (c : Int) (t : Tok), (IntsAre vs st) → (st.Pairwise (· < ·)) → (st.length < 1000) → Ctr w 187 1 [.ref a, .int c t] (fun h => h.IsList a vs.toArray) (fun v => ∃ t, v = .int ((cnt st c : Int) - 1) t) := by
  intro w a vs st c t hi hs hl
  k_dflt (refine' Ctr.bodyX (fun _ _ st h => stays_list st h) (binds := [(Str.ofString "firsts", .ref a), (Str.ofString "number", .int c t)]) ?ho ?hcd ?hbind ?hloc ?h ?hcell ?hd1 ?hco ?hgen ?hk; (case ho => k_is); (case hcd => k_is); (case hbind => first | exact fun _ _ => BindsTo.of_eq rfl | exact fun _ X' => binds_K X' rfl (by k_is) rfl rfl rfl); (case hloc => exact locs rfl); (case hcell => decide); (case hd1 => decide); (case hco => exact rfl); (case hgen => exact rfl); (case hk => exact rfl))
  intro kx
  revert hi hs hl
  revert w a vs st c t kx
  refine seal5 (dW, default, default, default, default) ?_
  generalize sl5_0 _ _ = w, sl5_1 _ _ = a, sl5_2 _ _ = vs, sl5_3 _ _ = st, sl5_4 _ _ = c
  refine seal2 (default, dCx) ?_
  generalize sl2_0 _ _ = t, sl2_1 _ _ = kx
  intro hi hs hl
  w_top off
  intro B F N X T hdp hun hP
  have _ : Dm := Dm.mk
  have _ : Rim := Rim.mk
  k_with_none
  k_with "@KswEnd" => ((k_here; k_extra "wend"))
  k_with "@exec While Compare cons nil" => ((k_here; k_extra "while"))
  k_with "k0" => (k_here; (with_reducible show wpAny _ _ (callWith _ (Value.ref _) _ (backTo _ (starEach [] _)) []) _ _ _); k_dflt (refine' callWith_K0 ?k1_q9 ?k2_q9 ?_; (case k1_q9 => first | with_reducible assumption | exact Frag.In.keeps (by with_reducible assumption) (Fr.keep (by with_reducible assumption))); (case k2_q9 => k_is); k_whole))
  k_with "fold" => (k_fold; (with_reducible rename Dm => d9); revert d9; revert ek; revert qk; intro qk ek _)
  k_with "seal0" => k_extra "seal"
  k_with "seal" =>
    (with_reducible show wpAny _ _ (execs (_ :: _) _) _ _ _)
    (try k_extra "preseal")
    (fail_if_success (have y9 := ‹_›; (with_reducible have y8 : Rim := y9)))
    (repeat ((fail_if_success (have y9 := ‹_›; (with_reducible have y8 : Rim := y9))); first | ((fail_if_success (have y9 := ‹_›; have y8 : (_ : Prop) := y9)); clear (‹_›)) | revert (‹_›)))
    (repeat (first
      | ((with_reducible refine seal2 dHT ?_); (generalize sl2_0 _ _ = z8, sl2_1 _ _ = z7))
      | ((with_reducible refine seal1 dHp ?_); (generalize eps _ _ = z8))
      | ((with_reducible refine seal1 (0 : Nat) ?_); (generalize eps _ _ = z8))
      | ((with_reducible refine seal1 default ?_); (generalize eps _ _ = z8))
      | (with_reducible intro _)))
    ((with_reducible rename Rim => m9); revert m9; intro _)

  have hlen := hi.length
  have hcl := cnt_le st c
  k_with "while" =>
    k_dflt (refine' ksw_while (σ := Int × Tok × Int × Tok) (fun _ => []) (fun c => [(Str.ofString "low", .int c.1 c.2.1), (Str.ofString "high", .int c.2.2.1 c.2.2.2)]) (fun _ => True) [Str.ofString "middle"] (fun k => 0 ≤ k.1 ∧ k.1 ≤ (cnt st c : Int) ∧ (cnt st c : Int) ≤ k.2.2.1 ∧ k.2.2.1 ≤ (st.length : Int)) (fun k => (k.2.2.1 - k.1).toNat) (_, _, _, _) ?F ?N ?Fa ?hk ?hp ?turn; (case F => k_asm); (case hk => kst_all); (case N => k_asm); (case Fa => exact True.intro); (case hp => (dsimp only [List.size_toArray]; lia)))
    rintro ⟨low, tl, high, th⟩ u h tk - ⟨h1, h2, h3, h4⟩ F1 N1
    dsimp only [kstB] at h1 h2 h3 h4 F1 N1 ⊢
    (revert low tl high th u h tk; refine seal5 (default, default, default, default, default) ?_; generalize sl5_0 _ _ = low, sl5_1 _ _ = tl, sl5_2 _ _ = high, sl5_3 _ _ = th, sl5_4 _ _ = u; refine seal2 (default, default) ?_; generalize sl2_0 _ _ = h, sl2_1 _ _ = tk; intro h1 h2 h3 h4 F1 N1)
    all_goals (try ((with_reducible rename Rim => m9); revert m9; intro _))
  k_with "wend" =>
    refine ksw_end (_, _, _, _) (by assumption) (by assumption) (by kst_in) (by kst_facts) (by kst_all) (by ksw_same) ?_ ?_
    all_goals dsimp only
    all_goals ((have hm := half_mid (low := low) (high := high) (by assumption)); (have ht := lt_cnt_iff (c := c) hs (i := ((low + high).fdiv 2).toNat) (by lia)))
    all_goals first
      | (have := ht.1 (by assumption); lia)
      | (have := mt ht.2 (by assumption); lia)
  ((try ((with_reducible rename Rim => m9); revert m9; intro _)); k_steps)
  all_goals (try dsimp only)
  all_goals (try refine Done.mk (by assumption) (int_ex ?_))
  all_goals (try lia)
inductive Dv where
  | s (x : Str)
  | b (x : Bool)
deriving DecidableEq
def IsDv : Value → Dv → Prop
  | .str x _, .s y => x = y
  | .bool x, .b y => x = y
  | _, _ => False
inductive DvsAre : List Value → List Dv → Prop
  | nil : DvsAre [] []
  | cons {v : Value} {d : Dv} {vs : List Value} {ds : List Dv} : IsDv v d → DvsAre vs ds → DvsAre (v :: vs) (d :: ds)
theorem DvsAre.length : ∀ {vs : List Value} {ds : List Dv}, DvsAre vs ds → vs.length = ds.length
  | _, _, .nil => rfl
  | _, _, .cons _ h => by simp [h.length]
theorem DvsAre.get : ∀ {vs : List Value} {ds : List Dv} {i : Nat}, DvsAre vs ds → i < ds.length → ∃ v, vs[i]? = some v ∧ IsDv v (ds.getD i (.b false))
  | _, _, _, .nil, h => by simp at h
  | _, _, 0, .cons hv _, _ => ⟨_, rfl, hv⟩
  | _, _, i + 1, .cons _ h, hi => by
    obtain ⟨v, a, b⟩ := h.get (i := i) (by simpa using hi)
    exact ⟨v, by simpa using a, by simpa using b⟩

theorem instG {h₀ h : Heap} {L x dx C : Addr} {m : Str → Option Value} {sl : Array (Option Value)} {od : Obj} (F : Fr h₀ L h m) (hx : h₀.get? x = some ⟨.ref C, some dx, .plain, sl⟩) (hd : h₀.get? dx = some od) :
    InstAt h x ⟨.ref C, some dx, .plain, sl⟩ C (some od) := ⟨F.keep _ _ hx, rfl, rfl, F.keep _ _ hd⟩
theorem my_item {prog : Program} {w : World} {A : Around} {E : Value → Shared → Prop} {s : Shared} {value slice : PySem.Expr} {l : Addr} {vs : List Value} {k : Int} {u : Tok} {v : Value} {Q : Value → Shared → Prop}
    (hl : s.heap.IsList l vs.toArray) (h0 : 0 ≤ k) (hhi : k < 2 ^ 63) (hx : vs[k.toNat]? = some v) (h : Q v s)
    (hs : subscripted slice false (.ref l) (.int k u) = operate [.ref l, .int k u] (getItem (.ref l) (.int k u)) := by with_unfolding_all rfl) :
    wpAny (model prog w) A (subscriptTail value slice (.ref l) (.int k u)) Q E s :=
  tail_any hl.typeIs slot_list_getitem.lookup (wpAny_getItem_list hl h0 hhi (by simpa using hx) h) hs
local macro_rules | `(tactic| k_inst) => `(tactic| exact instG (by k_asm) (by assumption) (by assumption))
local macro_rules | `(tactic| walk_at "subscriptTail") => `(tactic| k_extra "@subscriptTail")
/-- a range map, as it stands -/
def RmAt (h : Heap) (x : Addr) (st : List Int) (dv : List Dv) : Prop :=
  ∃ (dx sa va : Addr) (q : Nat → Int) (u : Nat → Tok) (sl : Array (Option Value)) (n : Nat) (dft : Value) (vs ws : List Value), h.get? x = some ⟨.ref 237, some dx, .plain, sl⟩ ∧
    h.get? dx = some (dictOf [⟨q 0, .str (Str.ofString "default") (u 0), dft⟩, ⟨q 1, .str (Str.ofString "starts") (u 1), .ref sa⟩, ⟨q 2, .str (Str.ofString "values") (u 2), .ref va⟩] n) ∧
    h.IsList sa vs.toArray ∧ IntsAre vs st ∧ h.IsList va ws.toArray ∧ DvsAre ws dv
theorem RmAt.mono {x : Addr} {st : List Int} {dv : List Dv} : Mono (fun h => RmAt h x st dv) := by
  rintro h h' k ⟨dx, sa, va, q, u, sl, n, dft, vs, ws, a, b, c, d, e, f⟩
  exact ⟨dx, sa, va, q, u, sl, n, dft, vs, ws, k _ _ a, k _ _ b, stays_list k c, d, stays_list k e, f⟩
def rget (st : List Int) (dv : List Dv) (c : Int) : Dv := dv.getD (cnt st c - 1) (.b false)

theorem c_rget : ∀ (w : World) (x : Addr) (st : List Int) (dv : List Dv) (c : Int) (t : Tok), (st.Pairwise (· < ·)) → (st.length < 1000) → (st.length = dv.length) → (0 < cnt st c) → Ctr w 213 3 [.ref x, .int c t] (fun h => RmAt h x st dv) (fun v => IsDv v (rget st dv c)) := by
  intro w x st dv c t hs hl hd hc
  k_dflt (refine' Ctr.bodyX RmAt.mono (binds := [(Str.ofString "self", .ref x), (Str.ofString "code", .int c t)]) ?ho ?hcd ?hbind ?hloc ?h ?hcell ?hd1 ?hco ?hgen ?hk; (case ho => k_is); (case hcd => k_is); (case hbind => first | exact fun _ _ => BindsTo.of_eq rfl | exact fun _ X' => binds_K X' rfl (by k_is) rfl rfl rfl); (case hloc => exact locs rfl); (case hcell => decide); (case hd1 => decide); (case hco => exact rfl); (case hgen => exact rfl); (case hk => exact rfl))
  intro kx
  revert hs hl hd hc
  revert w x st dv c t kx
  refine seal5 (dW, default, default, default, default) ?_
  generalize sl5_0 _ _ = w, sl5_1 _ _ = x, sl5_2 _ _ = st, sl5_3 _ _ = dv, sl5_4 _ _ = c
  refine seal2 (default, dCx) ?_
  generalize sl2_0 _ _ = t, sl2_1 _ _ = kx
  intro hs hl hd hc
  w_top off
  intro B F N X T hdp hun hP
  have _ : Dm := Dm.mk
  have _ : Rim := Rim.mk
  k_with_none
  k_with "@call ref" => ((k_here; (with_reducible show wpAny _ _ (call (Value.ref 187) _) _ _ _); k_dflt (refine' Ctr.useT (c_half _ _ _ _ _ _ (by assumption) (by assumption) (by assumption)) ?k1_q9 ?k2_q9 ?k3_q9 ?k4_q9 ?k5_q9 ?k6_q9 ?k7_q9 ?k8_q9 ?k9_q9 ?_; (case k1_q9 => k_asm); (case k2_q9 => k_asm); (case k3_q9 => k_asm); (case k4_q9 => k_asm); (case k5_q9 => k_asm); (case k6_q9 => first | exact rfl | assumption); (case k7_q9 => is_list); (case k8_q9 => ktr_room); (case k9_q9 => ktr_units)); intro t9 h9 tk9 st9 F9 N9; (try k_sweep); (try k_fold)); (all_goals (try ((with_reducible show wpAny _ _ _ _ _ _); (try revert t9); (try revert h9); (try revert tk9); (try revert st9); (try revert F9); (try revert N9); intros))))
  k_with "@subscriptTail" => ((k_here; (with_reducible show wpAny _ _ (subscriptTail _ _ (Value.ref _) (Value.int _ _)) _ _ _); (with_unfolding_all refine' my_item ?k1_q9 ?k2_q9 ?k3_q9 ?k4_q9 ?_ ?k6_q9; (case k4_q9 => assumption); (case k1_q9 => is_list); (case k2_q9 => lia); (case k3_q9 => lia); (case k6_q9 => with_unfolding_all rfl); k_whole)))
  k_with "k0" => (k_here; (with_reducible show wpAny _ _ (callWith _ (Value.ref _) _ (backTo _ (starEach [] _)) []) _ _ _); k_dflt (refine' callWith_K0 ?k1_q9 ?k2_q9 ?_; (case k1_q9 => first | with_reducible assumption | exact Frag.In.keeps (by with_reducible assumption) (Fr.keep (by with_reducible assumption))); (case k2_q9 => k_is); k_whole))
  k_with "fold" => (k_fold; (with_reducible rename Dm => d9); revert d9; revert ek; revert qk; intro qk ek _)
  k_with "seal0" => k_extra "seal"
  k_with "seal" =>
    (with_reducible show wpAny _ _ (execs (_ :: _) _) _ _ _)
    (try k_extra "preseal")
    (fail_if_success (have y9 := ‹_›; (with_reducible have y8 : Rim := y9)))
    (repeat ((fail_if_success (have y9 := ‹_›; (with_reducible have y8 : Rim := y9))); first | ((fail_if_success (have y9 := ‹_›; have y8 : (_ : Prop) := y9)); clear (‹_›)) | revert (‹_›)))
    (repeat (first
      | ((with_reducible refine seal2 dHT ?_); (generalize sl2_0 _ _ = z8, sl2_1 _ _ = z7))
      | ((with_reducible refine seal1 dHp ?_); (generalize eps _ _ = z8))
      | ((with_reducible refine seal1 (0 : Nat) ?_); (generalize eps _ _ = z8))
      | ((with_reducible refine seal1 default ?_); (generalize eps _ _ = z8))
      | (with_reducible intro _)))
    ((with_reducible rename Rim => m9); revert m9; intro _)

  obtain ⟨dx, sa, va, q, u, sl, n, dft, vs, ws, hx, hdx, hsa, hi, hva, hw⟩ := hP
  have hcl := cnt_le st c
  obtain ⟨v, hv, hvd⟩ := hw.get (i := cnt st c - 1) (by lia)
  have hv' : ws[((cnt st c : Int) - 1).toNat]? = some v := by rw [show ((cnt st c : Int) - 1).toNat = cnt st c - 1 by lia]; exact hv
  (revert dx sa va q u sl n dft vs ws v; refine seal8 (default, default, default, default, default, default, default, default) ?_; generalize sl8_0 _ _ = dx, sl8_1 _ _ = sa, sl8_2 _ _ = va, sl8_3 _ _ = q, sl8_4 _ _ = u, sl8_5 _ _ = sl, sl8_6 _ _ = n, sl8_7 _ _ = dft; refine seal2 (default, default) ?_; generalize sl2_0 _ _ = vs, sl2_1 _ _ = ws; intro hx hdx hsa hi hva hw; refine seal1 (default) ?_; generalize eps _ _ = v; intro hv hvd hv')
  ((try ((with_reducible rename Rim => m9); revert m9; intro _)); k_steps)
  all_goals (try dsimp only)
  all_goals exact Done.mk (by assumption) hvd
structure Db where
  g : Int → Str
  i : Int → Str
  e : Int → Bool
def RmOk (st : List Int) (dv : List Dv) (f : Int → Dv) : Prop := st.Pairwise (· < ·) ∧ st.length < 1000 ∧ st.length = dv.length ∧ ∀ c, 8704 ≤ c → c < 8720 → 0 < cnt st c ∧ rget st dv c = f c
/-- a database's own objects -/
def DataC (d dd mp : Addr) (df pp ww : Value) (sl : Array (Option Value)) (n : Nat) (q : Nat → Int) (u : Nat → Tok) (omp : Obj) (h : Heap) : Prop :=
  h.get? d = some ⟨.ref 286, some dd, .plain, sl⟩ ∧
  h.get? dd = some (dictOf [⟨q 0, .str (Str.ofString "defaults") (u 0), df⟩, ⟨q 1, .str (Str.ofString "maps") (u 1), .ref mp⟩, ⟨q 2, .str (Str.ofString "properties") (u 2), pp⟩, ⟨q 3, .str (Str.ofString "words") (u 3), ww⟩] n) ∧
  h.get? mp = some omp
theorem DataC.mono {d dd mp : Addr} {df pp ww : Value} {sl : Array (Option Value)} {n : Nat} {q : Nat → Int} {u : Nat → Tok} {omp : Obj} : Mono (DataC d dd mp df pp ww sl n q u omp) :=
  fun _ _ k ⟨a, b, c⟩ => ⟨k _ _ a, k _ _ b, k _ _ c⟩
def DataAt (w : World) (d : Addr) (D : Db) (h : Heap) : Prop :=
  ∃ (dd mp : Addr) (df pp ww : Value) (sl : Array (Option Value)) (n : Nat) (q : Nat → Int) (u : Nat → Tok) (omp : Obj) (m1 m2 m3 : Addr) (g1 : List Int) (v1 : List Dv) (g2 : List Int) (v2 : List Dv) (g3 : List Int) (v3 : List Dv),
    DataC d dd mp df pp ww sl n q u omp h ∧ omp.IsDictOf (PySem.strKind PySem.Challenge.rw_pq1305_01.row.prog w) [(Str.ofString "gcb", .ref m1), (Str.ofString "incb", .ref m2), (Str.ofString "ep", .ref m3)] ∧ (mp == sysModules) = false ∧
    RmAt h m1 g1 v1 ∧ RmOk g1 v1 (fun c => .s (D.g c)) ∧ RmAt h m2 g2 v2 ∧ RmOk g2 v2 (fun c => .s (D.i c)) ∧ RmAt h m3 g3 v3 ∧ RmOk g3 v3 (fun c => .b (D.e c))
theorem DataAt.mono {w : World} {d : Addr} {D : Db} : Mono (DataAt w d D) := by
  rintro h h' k ⟨dd, mp, df, pp, ww, sl, n, q, u, omp, m1, m2, m3, g1, v1, g2, v2, g3, v3, a1, a4, a5, a6, a7, a8, a9, b1, b2⟩
  exact ⟨dd, mp, df, pp, ww, sl, n, q, u, omp, m1, m2, m3, g1, v1, g2, v2, g3, v3, DataC.mono _ _ k a1, a4, a5, RmAt.mono _ _ k a6, a7, RmAt.mono _ _ k a8, a9, RmAt.mono _ _ k b1, b2⟩
theorem some_is {kvs : List (Str × Value)} {k : Str} {v : Value} (h : valueAt kvs k = some v) : (valueAt kvs k).isSome = true := by rw [h]; rfl
/-- what stands around the call is looked at first -/
theorem Ctr.at {w : World} {f : Addr} {d : Nat} {args : List Value} {P : Heap → Prop} {R : Value → Prop} (H : ∀ h, P h → ∃ P' : Heap → Prop, Ctr w f d args P' R ∧ P' h) : Ctr w f d args P R :=
  fun mean mg mb dp un gd cn cs a ccd cl outer A₀ base h₀ L m s Q E B F X T hk hd hu hP ret => let ⟨_, C, hp⟩ := H _ hP; C mean mg mb dp un gd cn cs a ccd cl outer A₀ base h₀ L m s Q E B F X T hk hd hu hp ret
theorem getM_data {w : World} {A : Around} {E : Value → Shared → Prop} {s : Shared} {d : Addr} {D : Db} {pl : Sem Bool} {Q : Value × List Value → Shared → Prop} {h₀ : Heap} {L : Addr} {m : Str → Option Value} (F : Fr h₀ L s.heap m) (X : (hd.heap_1 w.params).In h₀) (hD : DataAt w d D h₀) (h : Q (.ref 276, [.ref d]) s) :
    wpAny (model PySem.Challenge.rw_pq1305_01.row.prog w) A (getMethod (.ref d) (Str.ofString "get") pl) Q E s := by
  obtain ⟨dd, mp, df, pp, ww, sl, n, q, u, omp, m1, m2, m3, g1, v1, g2, v2, g3, v3, ⟨a1, a2, -⟩, -⟩ := hD
  exact method_inst F X (instG F a1 a2) (by k_is) (by k_is) (by k_is) (by rfl) h
theorem dG {prog : Program} {w : World} {h₀ h : Heap} {L d : Addr} {m : Str → Option Value} {o : Obj} {kvs : List (Str × Value)} (F : Fr h₀ L h m) (hd : h₀.get? d = some o) (hk : o.IsDictOf (PySem.strKind prog w) kvs) : h.DictOf (PySem.strKind prog w) d kvs :=
  Heap.dictOf_iff.mpr ⟨o, F.keep _ _ hd, hk⟩
section
variable {prog : Program} {w : World} {A : Around} {E : Value → Shared → Prop} {s : Shared} {d : Addr} {kvs : List (Str × Value)} {k : Str} {t : Tok} {v : Value}
theorem inG {Q : Value → Shared → Prop} (hD : s.heap.DictOf (PySem.strKind prog w) d kvs) (lo : (d == sysModules) = false) (b : Bool) (hb : (valueAt kvs k).isSome = b) (h : Q (.bool b) { s with toks := s.toks + 1 }) :
    wpAny (model prog w) A (compareOp .In (.str k t) (.ref d)) Q E s := wpAny_in_of (strKind_is _ _ _ _) lo hD.mapOf (by rw [hb]; exact h)
theorem itemG {value slice : PySem.Expr} {Q : Value → Shared → Prop} (hD : s.heap.DictOf (PySem.strKind prog w) d kvs) (hl : valueAt kvs k = some v) (h : Q v { s with toks := s.toks + 1 })
    (hs : subscripted slice false (.ref d) (.str k t) = operate [.ref d, .str k t] (getItem (.ref d) (.str k t)) := by with_unfolding_all rfl) (hg : ∀ r, letTemporaryGo value (.ref d) r = pure () := by intro _; with_unfolding_all rfl) :
    wpAny (model prog w) A (subscriptTail value slice (.ref d) (.str k t)) Q E s :=
  subscriptTail_builtin hD.typeIs slot_dict_getitem.lookup (wpAny_getItem_of (strKind_is _ _ _ _) hD.mapOf hl h) hs hg
end

theorem c_getm : ∀ (w : World) (d : Addr) (dd : Addr) (mp : Addr) (df : Value) (pp : Value) (ww : Value) (sl : Array (Option Value)) (n : Nat) (q : Nat → Int) (u : Nat → Tok) (omp : Obj) (kvs : List (Str × Value)) (nm : Str) (m : Addr) (st : List Int) (dv : List Dv) (c : Int) (t : Tok) (t' : Tok), (omp.IsDictOf (PySem.strKind PySem.Challenge.rw_pq1305_01.row.prog w) kvs) → ((mp == sysModules) = false) → (valueAt kvs nm = some (.ref m)) → (st.Pairwise (· < ·)) → (st.length < 1000) → (st.length = dv.length) → (0 < cnt st c) → Ctr w 276 4 [.ref d, .str nm t', .int c t] (fun h => DataC d dd mp df pp ww sl n q u omp h ∧ RmAt h m st dv) (fun v => IsDv v (rget st dv c)) := by
  intro w d dd mp df pp ww sl n q u omp kvs nm m st dv c t t' hk lo hv hs hl hd hc
  k_dflt (refine' Ctr.bodyX (fun _ _ k h => ⟨DataC.mono _ _ k h.1, RmAt.mono _ _ k h.2⟩) (binds := [(Str.ofString "self", .ref d), (Str.ofString "name", .str nm t'), (Str.ofString "code", .int c t)]) ?ho ?hcd ?hbind ?hloc ?h ?hcell ?hd1 ?hco ?hgen ?hk; (case ho => k_is); (case hcd => k_is); (case hbind => first | exact fun _ _ => BindsTo.of_eq rfl | exact fun _ X' => binds_K X' rfl (by k_is) rfl rfl rfl); (case hloc => exact locs rfl); (case hcell => decide); (case hd1 => decide); (case hco => exact rfl); (case hgen => exact rfl); (case hk => exact rfl))
  intro kx
  revert hk lo hv hs hl hd hc
  revert w d dd mp df pp ww sl n q u omp kvs nm m st dv c t t' kx
  refine seal8 (dW, default, default, default, default, default, default, default) ?_
  generalize sl8_0 _ _ = w, sl8_1 _ _ = d, sl8_2 _ _ = dd, sl8_3 _ _ = mp, sl8_4 _ _ = df, sl8_5 _ _ = pp, sl8_6 _ _ = ww, sl8_7 _ _ = sl
  refine seal8 (default, default, default, default, default, default, default, default) ?_
  generalize sl8_0 _ _ = n, sl8_1 _ _ = q, sl8_2 _ _ = u, sl8_3 _ _ = omp, sl8_4 _ _ = kvs, sl8_5 _ _ = nm, sl8_6 _ _ = m, sl8_7 _ _ = st
  refine seal5 (default, default, default, default, dCx) ?_
  generalize sl5_0 _ _ = dv, sl5_1 _ _ = c, sl5_2 _ _ = t, sl5_3 _ _ = t', sl5_4 _ _ = kx
  intro hk lo hv hs hl hd hc
  w_top off
  intro B F N X T hdp hun hP
  have _ : Dm := Dm.mk
  have _ : Rim := Rim.mk
  k_with_none
  k_with "@call ref" => ((k_here; (with_reducible show wpAny _ _ (call (Value.ref 213) _) _ _ _); k_dflt (refine' Ctr.use (c_rget _ _ _ _ _ _ (by assumption) (by assumption) (by assumption) (by assumption)) ?k1_q9 ?k2_q9 ?k3_q9 ?k4_q9 ?k5_q9 ?k6_q9 ?k7_q9 ?k8_q9 ?k9_q9 ?_; (case k1_q9 => k_asm); (case k2_q9 => k_asm); (case k3_q9 => k_asm); (case k4_q9 => k_asm); (case k5_q9 => k_asm); (case k6_q9 => first | exact rfl | assumption); (case k7_q9 => exact RmAt.mono _ _ (Fr.keep (by k_asm)) (by assumption)); (case k8_q9 => ktr_room); (case k9_q9 => ktr_units)); intro r9 h9 tk9 st9 F9 N9 hr9; (try k_sweep); (try k_fold)); (all_goals (try ((with_reducible show wpAny _ _ _ _ _ _); (try revert r9); (try revert h9); (try revert tk9); (try revert st9); (try revert F9); (try revert N9); (try revert hr9); intros))))
  k_with "@compareOp In str ref" => ((k_here; (with_reducible show wpAny _ _ (compareOp CmpOp.In (Value.str _ _) (Value.ref _)) _ _ _); k_dflt (first
      | refine inG (dG (by k_asm) (by assumption) (by assumption)) (by assumption) true (by first | rfl | exact some_is (by assumption)) ?_
      | refine inG (dG (by k_asm) (by assumption) (by assumption)) (by assumption) false (by rfl) ?_)))
  k_with "@subscriptTail" => ((k_here; (with_reducible show wpAny _ _ (subscriptTail _ _ (Value.ref _) (Value.str _ _)) _ _ _); k_dflt (refine itemG (dG (by k_asm) (by assumption) (by assumption)) (by first | rfl | assumption) ?_)))
  k_with "k0" => (k_here; (with_reducible show wpAny _ _ (callWith _ (Value.ref _) _ (backTo _ (starEach [] _)) []) _ _ _); k_dflt (refine' callWith_K0 ?k1_q9 ?k2_q9 ?_; (case k1_q9 => first | with_reducible assumption | exact Frag.In.keeps (by with_reducible assumption) (Fr.keep (by with_reducible assumption))); (case k2_q9 => k_is); k_whole))
  k_with "fold" => (k_fold; (with_reducible rename Dm => d9); revert d9; revert ek; revert qk; intro qk ek _)
  k_with "seal0" => k_extra "seal"
  k_with "seal" =>
    (with_reducible show wpAny _ _ (execs (_ :: _) _) _ _ _)
    (try k_extra "preseal")
    (fail_if_success (have y9 := ‹_›; (with_reducible have y8 : Rim := y9)))
    (repeat ((fail_if_success (have y9 := ‹_›; (with_reducible have y8 : Rim := y9))); first | ((fail_if_success (have y9 := ‹_›; have y8 : (_ : Prop) := y9)); clear (‹_›)) | revert (‹_›)))
    (repeat (first
      | ((with_reducible refine seal2 dHT ?_); (generalize sl2_0 _ _ = z8, sl2_1 _ _ = z7))
      | ((with_reducible refine seal1 dHp ?_); (generalize eps _ _ = z8))
      | ((with_reducible refine seal1 (0 : Nat) ?_); (generalize eps _ _ = z8))
      | ((with_reducible refine seal1 default ?_); (generalize eps _ _ = z8))
      | (with_reducible intro _)))
    ((with_reducible rename Rim => m9); revert m9; intro _)

  obtain ⟨⟨a1, a2, a3⟩, a6⟩ := hP
  obtain ⟨dx, sa, va, q', u', sx, nx, dft, us, ws, hx, hdx, -⟩ := id a6
  clear us ws
  (revert dx sa va q' u' sx nx dft; refine seal8 (default, default, default, default, default, default, default, default) ?_; generalize sl8_0 _ _ = dx, sl8_1 _ _ = sa, sl8_2 _ _ = va, sl8_3 _ _ = q', sl8_4 _ _ = u', sl8_5 _ _ = sx, sl8_6 _ _ = nx, sl8_7 _ _ = dft; intro hx hdx)
  ((try ((with_reducible rename Rim => m9); revert m9; intro _)); k_steps)
  all_goals (try dsimp only)
  all_goals refine Done.mk (by assumption) ?_
  all_goals assumption
theorem c_get_any {w : World} {d : Addr} {c : Int} {nm : Str} {t t' : Tok} {z : Dv} {omp : Obj} {kvs : List (Str × Value)} {dd mp : Addr} {df pp ww : Value} {sl : Array (Option Value)} {n : Nat} {q : Nat → Int} {u : Nat → Tok} {m : Addr} {st : List Int} {dv : List Dv} {h : Heap} {f : Int → Dv}
    (a1 : DataC d dd mp df pp ww sl n q u omp h) (hk : omp.IsDictOf (PySem.strKind PySem.Challenge.rw_pq1305_01.row.prog w) kvs) (lo : (mp == sysModules) = false) (hv : valueAt kvs nm = some (.ref m)) (a6 : RmAt h m st dv) (k : RmOk st dv f) (hc : 8704 ≤ c) (hc' : c < 8720) (e : f c = z) :
    ∃ P' : Heap → Prop, Ctr w 276 4 [.ref d, .str nm t', .int c t] P' (fun v => IsDv v z) ∧ P' h :=
  ⟨_, Ctr.imp (c_getm w d dd mp df pp ww sl n q u omp kvs nm m st dv c t t' hk lo hv k.1 k.2.1 k.2.2.1 (k.2.2.2 c hc hc').1) (fun v h => by rw [← e, ← (k.2.2.2 c hc hc').2]; exact h), a1, a6⟩
def GetAt (w : World) (d : Addr) (nm : Str) (c : Int) (t t' : Tok) (z : Dv) (h : Heap) : Prop := ∃ P' : Heap → Prop, Ctr w 276 4 [.ref d, .str nm t', .int c t] P' (fun v => IsDv v z) ∧ P' h
theorem c_get_all {w : World} {d : Addr} {D : Db} {c : Int} {t t' : Tok} (hc : 8704 ≤ c) (hc' : c < 8720) {h : Heap} (hP : DataAt w d D h) : GetAt w d (Str.ofString "gcb") c t t' (.s (D.g c)) h ∧ GetAt w d (Str.ofString "incb") c t t' (.s (D.i c)) h ∧ GetAt w d (Str.ofString "ep") c t t' (.b (D.e c)) h := by
  obtain ⟨dd, mp, df, pp, ww, sl, n, q, u, omp, m1, m2, m3, g1, v1, g2, v2, g3, v3, a1, a4, a5, a6, k1, a7, k2, a8, k3⟩ := hP
  exact ⟨c_get_any a1 a4 a5 rfl a6 k1 hc hc' rfl, c_get_any a1 a4 a5 rfl a7 k2 hc hc' rfl, c_get_any a1 a4 a5 rfl a8 k3 hc hc' rfl⟩
theorem c_get_gcb (w : World) (d : Addr) (D : Db) (c : Int) (t t' : Tok) (hc : 8704 ≤ c) (hc' : c < 8720) : Ctr w 276 4 [.ref d, .str (Str.ofString "gcb") t', .int c t] (DataAt w d D) (fun v => IsDv v (.s (D.g c))) :=
  Ctr.at fun _ h => (c_get_all hc hc' h).1
theorem c_get_incb (w : World) (d : Addr) (D : Db) (c : Int) (t t' : Tok) (hc : 8704 ≤ c) (hc' : c < 8720) : Ctr w 276 4 [.ref d, .str (Str.ofString "incb") t', .int c t] (DataAt w d D) (fun v => IsDv v (.s (D.i c))) :=
  Ctr.at fun _ h => (c_get_all hc hc' h).2.1
theorem c_get_ep (w : World) (d : Addr) (D : Db) (c : Int) (t t' : Tok) (hc : 8704 ≤ c) (hc' : c < 8720) : Ctr w 276 4 [.ref d, .str (Str.ofString "ep") t', .int c t] (DataAt w d D) (fun v => IsDv v (.b (D.e c))) :=
  Ctr.at fun _ h => (c_get_all hc hc' h).2.2

theorem isDv_s {v : Value} {x : Str} (h : IsDv v (.s x)) : ∃ t, v = .str x t := by
  cases v <;> simp [IsDv] at h
  exact ⟨_, by rw [h]⟩
theorem isDv_b {v : Value} {x : Bool} (h : IsDv v (.b x)) : v = .bool x := by
  cases v <;> simp [IsDv] at h
  rw [h]
local macro_rules | `(tactic| walk_at "getMethod ref") => `(tactic| k_extra "@getMethod ref")
theorem c_hs : ∀ (w : World) (c : Int) (t : Tok), (8704 ≤ c) → (c < 8720) → Ctr w 28 1 [.int c t] (fun _ => True) (fun v => v = .bool false) := by
  intro w c t hc hc'
  k_dflt (refine' Ctr.bodyX Mono.top (binds := [(Str.ofString "code", .int c t)]) ?ho ?hcd ?hbind ?hloc ?h ?hcell ?hd1 ?hco ?hgen ?hk; (case ho => k_is); (case hcd => k_is); (case hbind => first | exact fun _ _ => BindsTo.of_eq rfl | exact fun _ X' => binds_K X' rfl (by k_is) rfl rfl rfl); (case hloc => exact locs rfl); (case hcell => decide); (case hd1 => decide); (case hco => exact rfl); (case hgen => exact rfl); (case hk => exact rfl))
  intro kx
  revert hc hc'
  revert w c t kx
  refine seal3 (dW, default, default) ?_
  generalize sl3_0 _ _ = w, sl3_1 _ _ = c, sl3_2 _ _ = t
  refine seal1 (dCx) ?_
  generalize eps _ _ = kx
  intro hc hc'
  w_top off
  intro B F N X T hdp hun hP
  have _ : Dm := Dm.mk
  have _ : Rim := Rim.mk
  k_with_none
  k_with "k0" => (k_here; (with_reducible show wpAny _ _ (callWith _ (Value.ref _) _ (backTo _ (starEach [] _)) []) _ _ _); k_dflt (refine' callWith_K0 ?k1_q9 ?k2_q9 ?_; (case k1_q9 => first | with_reducible assumption | exact Frag.In.keeps (by with_reducible assumption) (Fr.keep (by with_reducible assumption))); (case k2_q9 => k_is); k_whole))
  k_with "fold" => (k_fold; (with_reducible rename Dm => d9); revert d9; revert ek; revert qk; intro qk ek _)
  k_with "seal0" => k_extra "seal"
  k_with "seal" =>
    (with_reducible show wpAny _ _ (execs (_ :: _) _) _ _ _)
    (try k_extra "preseal")
    (fail_if_success (have y9 := ‹_›; (with_reducible have y8 : Rim := y9)))
    (repeat ((fail_if_success (have y9 := ‹_›; (with_reducible have y8 : Rim := y9))); first | ((fail_if_success (have y9 := ‹_›; have y8 : (_ : Prop) := y9)); clear (‹_›)) | revert (‹_›)))
    (repeat (first
      | ((with_reducible refine seal2 dHT ?_); (generalize sl2_0 _ _ = z8, sl2_1 _ _ = z7))
      | ((with_reducible refine seal1 dHp ?_); (generalize eps _ _ = z8))
      | ((with_reducible refine seal1 (0 : Nat) ?_); (generalize eps _ _ = z8))
      | ((with_reducible refine seal1 default ?_); (generalize eps _ _ = z8))
      | (with_reducible intro _)))
    ((with_reducible rename Rim => m9); revert m9; intro _)

  ((try ((with_reducible rename Rim => m9); revert m9; intro _)); k_steps)
  all_goals (try dsimp only)
  all_goals first | (exfalso; lia) | (refine Done.mk (by assumption) ?_; show Value.bool _ = Value.bool _; congr 1; simp; lia)
theorem c_hk : ∀ (w : World) (c : Int) (t : Tok), (8704 ≤ c) → (c < 8720) → Ctr w 35 2 [.int c t] (fun _ => True) (fun v => v = .none) := by
  intro w c t hc hc'
  k_dflt (refine' Ctr.bodyX Mono.top (binds := [(Str.ofString "code", .int c t)]) ?ho ?hcd ?hbind ?hloc ?h ?hcell ?hd1 ?hco ?hgen ?hk; (case ho => k_is); (case hcd => k_is); (case hbind => first | exact fun _ _ => BindsTo.of_eq rfl | exact fun _ X' => binds_K X' rfl (by k_is) rfl rfl rfl); (case hloc => exact locs rfl); (case hcell => decide); (case hd1 => decide); (case hco => exact rfl); (case hgen => exact rfl); (case hk => exact rfl))
  intro kx
  revert hc hc'
  revert w c t kx
  refine seal3 (dW, default, default) ?_
  generalize sl3_0 _ _ = w, sl3_1 _ _ = c, sl3_2 _ _ = t
  refine seal1 (dCx) ?_
  generalize eps _ _ = kx
  intro hc hc'
  intro B F N X T hdp hun hP
  have _ : Dm := Dm.mk
  have _ : Rim := Rim.mk
  k_with_none
  k_with "@call ref" => ((k_here; (with_reducible show wpAny _ _ (call (Value.ref 28) _) _ _ _); k_dflt (refine' Ctr.useV (c_hs _ _ _ (by first | assumption | lia) (by first | assumption | lia)) ?k1_q9 ?k2_q9 ?k3_q9 ?k4_q9 ?k5_q9 ?k6_q9 ?k7_q9 ?k8_q9 ?k9_q9 ?_; (case k1_q9 => k_asm); (case k2_q9 => k_asm); (case k3_q9 => k_asm); (case k4_q9 => k_asm); (case k5_q9 => k_asm); (case k6_q9 => first | exact rfl | assumption); (case k7_q9 => trivial); (case k8_q9 => ktr_room); (case k9_q9 => ktr_units)); intro h9 tk9 st9 F9 N9; (try k_sweep); (try k_fold)); (all_goals (try ((with_reducible show wpAny _ _ _ _ _ _); (try revert h9); (try revert tk9); (try revert st9); (try revert F9); (try revert N9); intros))))
  k_with "k0" => (k_here; (with_reducible show wpAny _ _ (callWith _ (Value.ref _) _ (backTo _ (starEach [] _)) []) _ _ _); k_dflt (refine' callWith_K0 ?k1_q9 ?k2_q9 ?_; (case k1_q9 => first | with_reducible assumption | exact Frag.In.keeps (by with_reducible assumption) (Fr.keep (by with_reducible assumption))); (case k2_q9 => k_is); k_whole))
  k_with "fold" => (k_fold; (with_reducible rename Dm => d9); revert d9; revert ek; revert qk; intro qk ek _)
  k_with "seal0" => k_extra "seal"
  k_with "seal" =>
    (with_reducible show wpAny _ _ (execs (_ :: _) _) _ _ _)
    (try k_extra "preseal")
    (fail_if_success (have y9 := ‹_›; (with_reducible have y8 : Rim := y9)))
    (repeat ((fail_if_success (have y9 := ‹_›; (with_reducible have y8 : Rim := y9))); first | ((fail_if_success (have y9 := ‹_›; have y8 : (_ : Prop) := y9)); clear (‹_›)) | revert (‹_›)))
    (repeat (first
      | ((with_reducible refine seal2 dHT ?_); (generalize sl2_0 _ _ = z8, sl2_1 _ _ = z7))
      | ((with_reducible refine seal1 dHp ?_); (generalize eps _ _ = z8))
      | ((with_reducible refine seal1 (0 : Nat) ?_); (generalize eps _ _ = z8))
      | ((with_reducible refine seal1 default ?_); (generalize eps _ _ = z8))
      | (with_reducible intro _)))
    ((with_reducible rename Rim => m9); revert m9; intro _)

  ((try ((with_reducible rename Rim => m9); revert m9; intro _)); k_steps)
  all_goals (try dsimp only)
  all_goals first | (exfalso; lia) | exact Done.mk (by assumption) rfl
theorem str_ex {x : Str} {t : Tok} : ∃ u, Value.str x t = Value.str x u := ⟨t, rfl⟩
theorem c_kind : ∀ (w : World) (d : Addr) (D : Db) (c : Int) (t : Tok), (8704 ≤ c) → (c < 8720) → Ctr w 45 6 [.int c t, .ref d] (DataAt w d D) (fun v => ∃ t, v = .str (D.g c) t) := by
  intro w d D c t hc hc'
  k_dflt (refine' Ctr.bodyX DataAt.mono (binds := [(Str.ofString "code", .int c t), (Str.ofString "data", .ref d)]) ?ho ?hcd ?hbind ?hloc ?h ?hcell ?hd1 ?hco ?hgen ?hk; (case ho => k_is); (case hcd => k_is); (case hbind => first | exact fun _ _ => BindsTo.of_eq rfl | exact fun _ X' => binds_K X' rfl (by k_is) rfl rfl rfl); (case hloc => exact locs rfl); (case hcell => decide); (case hd1 => decide); (case hco => exact rfl); (case hgen => exact rfl); (case hk => exact rfl))
  intro kx
  revert hc hc'
  revert w d D c t kx
  refine seal5 (dW, default, ⟨fun _ => default, fun _ => default, fun _ => false⟩, default, default) ?_
  generalize sl5_0 _ _ = w, sl5_1 _ _ = d, sl5_2 _ _ = D, sl5_3 _ _ = c, sl5_4 _ _ = t
  refine seal1 (dCx) ?_
  generalize eps _ _ = kx
  intro hc hc'
  intro B F N X T hdp hun hP
  have _ : Dm := Dm.mk
  have _ : Rim := Rim.mk
  k_with_none
  k_with "@getMethod ref" => ((k_here; (with_reducible show wpAny _ _ (getMethod (Value.ref _) (Str.ofString "get") _) _ _ _); k_dflt (refine getM_data (by k_asm) (by k_asm) (by with_reducible assumption) ?_)))
  k_with "@call ref" => ((k_here; (with_reducible show wpAny _ _ (call (Value.ref 276) _) _ _ _); k_dflt (refine' Ctr.useT (Ctr.imp (c_get_gcb _ _ _ _ _ _ (by first | assumption | lia) (by first | assumption | lia)) (fun _ h => isDv_s h)) ?k1_q9 ?k2_q9 ?k3_q9 ?k4_q9 ?k5_q9 ?k6_q9 ?k7_q9 ?k8_q9 ?k9_q9 ?_; (case k1_q9 => k_asm); (case k2_q9 => k_asm); (case k3_q9 => k_asm); (case k4_q9 => k_asm); (case k5_q9 => k_asm); (case k6_q9 => first | exact rfl | assumption); (case k7_q9 => exact DataAt.mono _ _ (Fr.keep (by k_asm)) (by assumption)); (case k8_q9 => ktr_room); (case k9_q9 => ktr_units)); intro t9 h9 tk9 st9 F9 N9; (try k_sweep); (try k_fold)); (all_goals (try ((with_reducible show wpAny _ _ _ _ _ _); (try revert t9); (try revert h9); (try revert tk9); (try revert st9); (try revert F9); (try revert N9); intros))))
  k_with "@call ref" => ((k_here; (with_reducible show wpAny _ _ (call (Value.ref 35) _) _ _ _); k_dflt (refine' Ctr.useV (c_hk _ _ _ (by first | assumption | lia) (by first | assumption | lia)) ?k1_q9 ?k2_q9 ?k3_q9 ?k4_q9 ?k5_q9 ?k6_q9 ?k7_q9 ?k8_q9 ?k9_q9 ?_; (case k1_q9 => k_asm); (case k2_q9 => k_asm); (case k3_q9 => k_asm); (case k4_q9 => k_asm); (case k5_q9 => k_asm); (case k6_q9 => first | exact rfl | assumption); (case k7_q9 => trivial); (case k8_q9 => ktr_room); (case k9_q9 => ktr_units)); intro h9 tk9 st9 F9 N9; (try k_sweep); (try k_fold)); (all_goals (try ((with_reducible show wpAny _ _ _ _ _ _); (try revert h9); (try revert tk9); (try revert st9); (try revert F9); (try revert N9); intros))))
  k_with "k0" => (k_here; (with_reducible show wpAny _ _ (callWith _ (Value.ref _) _ (backTo _ (starEach [] _)) []) _ _ _); k_dflt (refine' callWith_K0 ?k1_q9 ?k2_q9 ?_; (case k1_q9 => first | with_reducible assumption | exact Frag.In.keeps (by with_reducible assumption) (Fr.keep (by with_reducible assumption))); (case k2_q9 => k_is); k_whole))
  k_with "fold" => (k_fold; (with_reducible rename Dm => d9); revert d9; revert ek; revert qk; intro qk ek _)
  k_with "seal0" => k_extra "seal"
  k_with "seal" =>
    (with_reducible show wpAny _ _ (execs (_ :: _) _) _ _ _)
    (try k_extra "preseal")
    (fail_if_success (have y9 := ‹_›; (with_reducible have y8 : Rim := y9)))
    (repeat ((fail_if_success (have y9 := ‹_›; (with_reducible have y8 : Rim := y9))); first | ((fail_if_success (have y9 := ‹_›; have y8 : (_ : Prop) := y9)); clear (‹_›)) | revert (‹_›)))
    (repeat (first
      | ((with_reducible refine seal2 dHT ?_); (generalize sl2_0 _ _ = z8, sl2_1 _ _ = z7))
      | ((with_reducible refine seal1 dHp ?_); (generalize eps _ _ = z8))
      | ((with_reducible refine seal1 (0 : Nat) ?_); (generalize eps _ _ = z8))
      | ((with_reducible refine seal1 default ?_); (generalize eps _ _ = z8))
      | (with_reducible intro _)))
    ((with_reducible rename Rim => m9); revert m9; intro _)

  ((try ((with_reducible rename Rim => m9); revert m9; intro _)); k_steps)
  all_goals (try dsimp only)
  all_goals refine Done.mk (by assumption) str_ex
def Codes (tx : List Int) : Prop := ∀ i, i < tx.length → 8704 ≤ tx.getD i 0 ∧ tx.getD i 0 < 8720
theorem Codes.lo {tx : List Int} (h : Codes tx) {i : Nat} (hi : i < tx.length) : 8704 ≤ tx.getD i 0 := (h i hi).1
theorem Codes.hi {tx : List Int} (h : Codes tx) {i : Nat} (hi : i < tx.length) : tx.getD i 0 < 8720 := (h i hi).2
local macro_rules | `(tactic| walk_at "compareOp NotIn str ref") => `(tactic| k_extra "@compareOp NotIn str ref")
structure Txt (vs : List Value) (tx : List Int) : Prop where
  hi : IntsAre vs tx
  hc : Codes tx
  hl : tx.length < 1000
/-- a text, as it stands beside the data -/
def TextAt (w : World) (d : Addr) (D : Db) (ta : Addr) (vs : List Value) (h : Heap) : Prop := DataAt w d D h ∧ h.IsList ta vs.toArray
theorem TextAt.mono {w : World} {d : Addr} {D : Db} {ta : Addr} {vs : List Value} : Mono (TextAt w d D ta vs) := fun _ _ k x => ⟨DataAt.mono _ _ k x.1, stays_list k x.2⟩

def conjB (D : Db) (tx : List Int) : Nat → Bool → Bool
  | 0, _ => false
  | k + 1, hl => if (D.i (tx.getD k 0) == Str.ofString "Consonant") = true then hl
      else if [Str.ofString "Extend", Str.ofString "Linker"].any (fun x => x == D.i (tx.getD k 0)) = true then conjB D tx k (hl || (D.i (tx.getD k 0) == Str.ofString "Linker")) else false
def isConj (D : Db) (tx : List Int) (i : Int) : Bool := (D.i (tx.getD i.toNat 0) == Str.ofString "Consonant") && conjB D tx i.toNat false
theorem conjB_at {D : Db} {tx : List Int} {b : Int} {hl : Bool} (h : 0 ≤ b) : conjB D tx (b + 1).toNat hl = (if (D.i (tx.getD b.toNat 0) == Str.ofString "Consonant") = true then hl
      else if [Str.ofString "Extend", Str.ofString "Linker"].any (fun x => x == D.i (tx.getD b.toNat 0)) = true then conjB D tx (b - 1 + 1).toNat (hl || (D.i (tx.getD b.toNat 0) == Str.ofString "Linker")) else false) := by
  obtain ⟨k, rfl⟩ := Int.eq_ofNat_of_zero_le h
  have e1 : ((k : Int) + 1).toNat = k + 1 := by lia
  have e2 : ((k : Int) - 1 + 1).toNat = k := by lia
  have e3 : ((k : Int)).toNat = k := by lia
  rw [e1, e2, e3]; rfl

theorem conjB_c {D : Db} {tx : List Int} {b : Int} {hl : Bool} (h : 0 ≤ b) (hc : (D.i (tx.getD b.toNat 0) == Str.ofString "Consonant") = true) : conjB D tx (b + 1).toNat hl = hl := by
  rw [conjB_at h, if_pos hc]
theorem conjB_n {D : Db} {tx : List Int} {b : Int} {hl : Bool} (h : 0 ≤ b) (hc : (D.i (tx.getD b.toNat 0) == Str.ofString "Consonant") = false) (hj : ([Str.ofString "Extend", Str.ofString "Linker"].any (fun x => x == D.i (tx.getD b.toNat 0))) = false) : conjB D tx (b + 1).toNat hl = false := by
  rw [conjB_at h, if_neg (ne_true_of_eq_false hc), if_neg (ne_true_of_eq_false hj)]
theorem conjB_j {D : Db} {tx : List Int} {b : Int} {hl : Bool} (h : 0 ≤ b) (hc : (D.i (tx.getD b.toNat 0) == Str.ofString "Consonant") = false) (hj : ([Str.ofString "Extend", Str.ofString "Linker"].any (fun x => x == D.i (tx.getD b.toNat 0))) = true) : conjB D tx (b + 1).toNat hl = conjB D tx (b - 1 + 1).toNat (hl || (D.i (tx.getD b.toNat 0) == Str.ofString "Linker")) := by
  rw [conjB_at h, if_neg (ne_true_of_eq_false hc), if_pos hj]
theorem or_l {a b : Bool} (h : a = true) : a = (a || b) := by subst h; rfl
theorem or_r {a b : Bool} (h : a = false) : b = (a || b) := by subst h; rfl
theorem conj_no {D : Db} {tx : List Int} {i : Int} (h : (D.i (tx.getD i.toNat 0) != Str.ofString "Consonant") = true) : isConj D tx i = false := by
  have h' : (D.i (tx.getD i.toNat 0) == Str.ofString "Consonant") = false := by simpa [bne] using h
  unfold isConj; rw [h']; rfl
theorem conj_yes {D : Db} {tx : List Int} {i : Int} (h : (D.i (tx.getD i.toNat 0) != Str.ofString "Consonant") = false) : isConj D tx i = conjB D tx i.toNat false := by
  have h' : (D.i (tx.getD i.toNat 0) == Str.ofString "Consonant") = true := by simpa [bne] using h
  unfold isConj; rw [h']; rfl
theorem c_conj : ∀ (w : World) (d : Addr) (D : Db) (ta : Addr) (vs : List Value) (tx : List Int) (i : Int) (t : Tok), (Txt vs tx) → (0 ≤ i) → (i < tx.length) → Ctr w 66 6 [.ref ta, .int i t, .ref d] (TextAt w d D ta vs) (fun v => v = .bool (isConj D tx i)) := by
  intro w d D ta vs tx i t hT h0 h1
  k_dflt (refine' Ctr.bodyX TextAt.mono (binds := [(Str.ofString "text", .ref ta), (Str.ofString "at", .int i t), (Str.ofString "data", .ref d)]) ?ho ?hcd ?hbind ?hloc ?h ?hcell ?hd1 ?hco ?hgen ?hk; (case ho => k_is); (case hcd => k_is); (case hbind => first | exact fun _ _ => BindsTo.of_eq rfl | exact fun _ X' => binds_K X' rfl (by k_is) rfl rfl rfl); (case hloc => exact locs rfl); (case hcell => decide); (case hd1 => decide); (case hco => exact rfl); (case hgen => exact rfl); (case hk => exact rfl))
  intro kx
  revert hT h0 h1
  revert w d D ta vs tx i t kx
  refine seal8 (dW, default, ⟨fun _ => default, fun _ => default, fun _ => false⟩, default, default, default, default, default) ?_
  generalize sl8_0 _ _ = w, sl8_1 _ _ = d, sl8_2 _ _ = D, sl8_3 _ _ = ta, sl8_4 _ _ = vs, sl8_5 _ _ = tx, sl8_6 _ _ = i, sl8_7 _ _ = t
  refine seal1 (dCx) ?_
  generalize eps _ _ = kx
  intro hT h0 h1
  w_top off
  intro B F N X T hdp hun hP
  have _ : Dm := Dm.mk
  have _ : Rim := Rim.mk
  k_with_none
  k_with "@KswEnd" => ((k_here; k_extra "wend"))
  k_with "@exec While Compare cons nil" => ((k_here; k_extra "while"))
  k_with "@getMethod ref" => ((k_here; (with_reducible show wpAny _ _ (getMethod (Value.ref _) (Str.ofString "get") _) _ _ _); k_dflt (refine getM_data (by k_asm) (by k_asm) (by with_reducible assumption) ?_)))
  k_with "@call ref" => ((k_here; (with_reducible show wpAny _ _ (call (Value.ref 276) _) _ _ _); k_dflt (refine' Ctr.useT (Ctr.imp (c_get_incb _ _ _ _ _ _ (Codes.lo (by assumption) (by lia)) (Codes.hi (by assumption) (by lia))) (fun _ h => isDv_s h)) ?k1_q9 ?k2_q9 ?k3_q9 ?k4_q9 ?k5_q9 ?k6_q9 ?k7_q9 ?k8_q9 ?k9_q9 ?_; (case k1_q9 => k_asm); (case k2_q9 => k_asm); (case k3_q9 => k_asm); (case k4_q9 => k_asm); (case k5_q9 => k_asm); (case k6_q9 => first | exact rfl | assumption); (case k7_q9 => exact DataAt.mono _ _ (Fr.keep (by k_asm)) (by assumption)); (case k8_q9 => ktr_room); (case k9_q9 => ktr_units)); intro t9 h9 tk9 st9 F9 N9; (try k_sweep); (try k_fold)); (all_goals (try ((with_reducible show wpAny _ _ _ _ _ _); (try revert t9); (try revert h9); (try revert tk9); (try revert st9); (try revert F9); (try revert N9); intros))))
  k_with "@compareOp NotIn str ref" => ((k_here; (with_reducible show wpAny _ _ (compareOp CmpOp.NotIn (Value.str _ _) (Value.ref _)) _ _ _); k_dflt (refine' notin_tuple_strs (topTup (by k_asm) (by k_asm) ?e_q9) ?k2_q9 ?_; (case e_q9 => k_is); (case k2_q9 => (repeat constructor); done))))
  k_with "k0" => (k_here; (with_reducible show wpAny _ _ (callWith _ (Value.ref _) _ (backTo _ (starEach [] _)) []) _ _ _); k_dflt (refine' callWith_K0 ?k1_q9 ?k2_q9 ?_; (case k1_q9 => first | with_reducible assumption | exact Frag.In.keeps (by with_reducible assumption) (Fr.keep (by with_reducible assumption))); (case k2_q9 => k_is); k_whole))
  k_with "fold" => (k_fold; (with_reducible rename Dm => d9); revert d9; revert ek; revert qk; intro qk ek _)
  k_with "seal0" => k_extra "seal"
  k_with "seal" =>
    (with_reducible show wpAny _ _ (execs (_ :: _) _) _ _ _)
    (try k_extra "preseal")
    (fail_if_success (have y9 := ‹_›; (with_reducible have y8 : Rim := y9)))
    (repeat ((fail_if_success (have y9 := ‹_›; (with_reducible have y8 : Rim := y9))); first | ((fail_if_success (have y9 := ‹_›; have y8 : (_ : Prop) := y9)); clear (‹_›)) | revert (‹_›)))
    (repeat (first
      | ((with_reducible refine seal2 dHT ?_); (generalize sl2_0 _ _ = z8, sl2_1 _ _ = z7))
      | ((with_reducible refine seal1 dHp ?_); (generalize eps _ _ = z8))
      | ((with_reducible refine seal1 (0 : Nat) ?_); (generalize eps _ _ = z8))
      | ((with_reducible refine seal1 default ?_); (generalize eps _ _ = z8))
      | (with_reducible intro _)))
    ((with_reducible rename Rim => m9); revert m9; intro _)

  obtain ⟨hi, hc, hl⟩ := id hT
  obtain ⟨hD, hL⟩ := hP
  have hlen := hi.length
  k_with "while" =>
    k_dflt (refine' ksw_while (σ := Bool × Int × Tok) (fun _ => []) (fun c => [(Str.ofString "has_linker", .bool c.1), (Str.ofString "back", .int c.2.1 c.2.2)]) (fun _ => True) [Str.ofString "word"] (fun k => -1 ≤ k.2.1 ∧ k.2.1 < i ∧ conjB D tx (k.2.1 + 1).toNat k.1 = conjB D tx i.toNat false) (fun k => (k.2.1 + 1).toNat) (_, _, _) ?F ?N ?Fa ?hk ?hp ?turn; (case F => k_asm); (case hk => kst_all); (case N => k_asm); (case Fa => exact True.intro); (case hp => (dsimp only; refine ⟨by lia, by lia, ?_⟩; congr 1; lia)))
    rintro ⟨hk, back, tb⟩ u h tk - ⟨b1, b2, b3⟩ F1 N1
    dsimp only [kstB] at b1 b2 b3 F1 N1 ⊢
    (revert hk back tb u h tk; refine seal5 (default, default, default, default, default) ?_; generalize sl5_0 _ _ = hk, sl5_1 _ _ = back, sl5_2 _ _ = tb, sl5_3 _ _ = u, sl5_4 _ _ = h; refine seal1 (default) ?_; generalize eps _ _ = tk; intro b1 b2 b3 F1 N1)
    all_goals (try ((with_reducible rename Rim => m9); revert m9; intro _))
  k_with "wend" =>
    refine ksw_end (_, _, _) (by assumption) (by assumption) (by kst_in) (by kst_facts) (by kst_all) (by ksw_same) ?_ ?_
    all_goals dsimp only
    · refine ⟨by lia, by lia, ?_⟩
      rw [← b3, conjB_j (D := D) (tx := tx) (b := back) (by lia) (by assumption) (by assumption)]
      first | exact congrArg _ (or_l (by assumption)) | exact congrArg _ (or_r (by assumption))
    · lia
  ((try ((with_reducible rename Rim => m9); revert m9; intro _)); k_steps)
  all_goals (try dsimp only)
  all_goals (refine Done.mk (by assumption) (congrArg Value.bool ?_))
  all_goals first
    | exact (conj_no (by assumption)).symm
    | exact (((conj_yes (by assumption)).trans b3.symm).trans (conjB_c (by lia) (by assumption))).symm
    | exact (((conj_yes (by assumption)).trans b3.symm).trans (conjB_n (by lia) (by assumption) (by assumption))).symm
    | exact (((conj_yes (by assumption)).trans b3.symm).trans (by rw [show (back + 1).toNat = 0 by lia]; rfl)).symm
def picB (D : Db) (tx : List Int) : Nat → Bool
  | 0 => false
  | k + 1 => if D.e (tx.getD k 0) = true then true else if (D.g (tx.getD k 0) == Str.ofString "Extend") = true then picB D tx k else false
theorem picB_at {D : Db} {tx : List Int} {b : Int} (h : 0 ≤ b) : picB D tx (b + 1).toNat = (if D.e (tx.getD b.toNat 0) = true then true else if (D.g (tx.getD b.toNat 0) == Str.ofString "Extend") = true then picB D tx (b - 1 + 1).toNat else false) := by
  obtain ⟨k, rfl⟩ := Int.eq_ofNat_of_zero_le h
  have e1 : ((k : Int) + 1).toNat = k + 1 := by lia
  have e2 : ((k : Int) - 1 + 1).toNat = k := by lia
  have e3 : ((k : Int)).toNat = k := by lia
  rw [e1, e2, e3]; rfl
theorem picB_p {D : Db} {tx : List Int} {b : Int} (h : 0 ≤ b) (hp : D.e (tx.getD b.toNat 0) = true) : picB D tx (b + 1).toNat = true := by rw [picB_at h, if_pos hp]
theorem picB_n {D : Db} {tx : List Int} {b : Int} (h : 0 ≤ b) (hp : D.e (tx.getD b.toNat 0) = false) (hg : (D.g (tx.getD b.toNat 0) != Str.ofString "Extend") = true) : picB D tx (b + 1).toNat = false := by
  rw [picB_at h, if_neg (ne_true_of_eq_false hp), if_neg (by simpa [bne] using hg)]
theorem picB_j {D : Db} {tx : List Int} {b : Int} (h : 0 ≤ b) (hp : D.e (tx.getD b.toNat 0) = false) (hg : (D.g (tx.getD b.toNat 0) != Str.ofString "Extend") = false) : picB D tx (b + 1).toNat = picB D tx (b - 1 + 1).toNat := by
  rw [picB_at h, if_neg (ne_true_of_eq_false hp), if_pos (by simpa [bne] using hg)]
def isPic (D : Db) (tx : List Int) (i : Int) : Bool := D.e (tx.getD i.toNat 0) && (D.g (tx.getD (i - 1).toNat 0) == Str.ofString "ZWJ") && picB D tx (i - 2 + 1).toNat
theorem isPic_a {D : Db} {tx : List Int} {i : Int} (h : D.e (tx.getD i.toNat 0) = false) : isPic D tx i = false := by unfold isPic; rw [h]; rfl
theorem isPic_b {D : Db} {tx : List Int} {i : Int} (h : (D.g (tx.getD (i - 1).toNat 0) != Str.ofString "ZWJ") = true) : isPic D tx i = false := by
  have h' : (D.g (tx.getD (i - 1).toNat 0) == Str.ofString "ZWJ") = false := by simpa [bne] using h
  unfold isPic; rw [h']; simp
theorem isPic_c {D : Db} {tx : List Int} {i : Int} (h : D.e (tx.getD i.toNat 0) = true) (hz : (D.g (tx.getD (i - 1).toNat 0) != Str.ofString "ZWJ") = false) : isPic D tx i = picB D tx (i - 2 + 1).toNat := by
  have h' : (D.g (tx.getD (i - 1).toNat 0) == Str.ofString "ZWJ") = true := by simpa [bne] using hz
  unfold isPic; rw [h, h']; rfl

theorem c_pic : ∀ (w : World) (d : Addr) (D : Db) (ta : Addr) (vs : List Value) (tx : List Int) (i : Int) (t : Tok), (Txt vs tx) → (0 < i) → (i < tx.length) → Ctr w 73 8 [.ref ta, .int i t, .ref d] (TextAt w d D ta vs) (fun v => v = .bool (isPic D tx i)) := by
  intro w d D ta vs tx i t hT h0 h1
  k_dflt (refine' Ctr.bodyX TextAt.mono (binds := [(Str.ofString "text", .ref ta), (Str.ofString "at", .int i t), (Str.ofString "data", .ref d)]) ?ho ?hcd ?hbind ?hloc ?h ?hcell ?hd1 ?hco ?hgen ?hk; (case ho => k_is); (case hcd => k_is); (case hbind => first | exact fun _ _ => BindsTo.of_eq rfl | exact fun _ X' => binds_K X' rfl (by k_is) rfl rfl rfl); (case hloc => exact locs rfl); (case hcell => decide); (case hd1 => decide); (case hco => exact rfl); (case hgen => exact rfl); (case hk => exact rfl))
  intro kx
  revert hT h0 h1
  revert w d D ta vs tx i t kx
  refine seal8 (dW, default, ⟨fun _ => default, fun _ => default, fun _ => false⟩, default, default, default, default, default) ?_
  generalize sl8_0 _ _ = w, sl8_1 _ _ = d, sl8_2 _ _ = D, sl8_3 _ _ = ta, sl8_4 _ _ = vs, sl8_5 _ _ = tx, sl8_6 _ _ = i, sl8_7 _ _ = t
  refine seal1 (dCx) ?_
  generalize eps _ _ = kx
  intro hT h0 h1
  w_top off
  intro B F N X T hdp hun hP
  have _ : Dm := Dm.mk
  have _ : Rim := Rim.mk
  k_with_none
  k_with "@KswEnd" => ((k_here; k_extra "wend"))
  k_with "@exec While Compare cons nil" => ((k_here; k_extra "while"))
  k_with "@getMethod ref" => ((k_here; (with_reducible show wpAny _ _ (getMethod (Value.ref _) (Str.ofString "get") _) _ _ _); k_dflt (refine getM_data (by k_asm) (by k_asm) (by with_reducible assumption) ?_)))
  k_with "@call ref" => ((k_here; (with_reducible show wpAny _ _ (call (Value.ref 276) _) _ _ _); k_dflt (refine' Ctr.useV (Ctr.imp (c_get_ep _ _ _ _ _ _ (Codes.lo (by assumption) (by lia)) (Codes.hi (by assumption) (by lia))) (fun _ h => isDv_b h)) ?k1_q9 ?k2_q9 ?k3_q9 ?k4_q9 ?k5_q9 ?k6_q9 ?k7_q9 ?k8_q9 ?k9_q9 ?_; (case k1_q9 => k_asm); (case k2_q9 => k_asm); (case k3_q9 => k_asm); (case k4_q9 => k_asm); (case k5_q9 => k_asm); (case k6_q9 => first | exact rfl | assumption); (case k7_q9 => exact DataAt.mono _ _ (Fr.keep (by k_asm)) (by assumption)); (case k8_q9 => ktr_room); (case k9_q9 => ktr_units)); intro h9 tk9 st9 F9 N9; (try k_sweep); (try k_fold)); (all_goals (try ((with_reducible show wpAny _ _ _ _ _ _); (try revert h9); (try revert tk9); (try revert st9); (try revert F9); (try revert N9); intros))))
  k_with "@call ref" => ((k_here; (with_reducible show wpAny _ _ (call (Value.ref 45) _) _ _ _); k_dflt (refine' Ctr.useT (c_kind _ _ _ _ _ (Codes.lo (by assumption) (by lia)) (Codes.hi (by assumption) (by lia))) ?k1_q9 ?k2_q9 ?k3_q9 ?k4_q9 ?k5_q9 ?k6_q9 ?k7_q9 ?k8_q9 ?k9_q9 ?_; (case k1_q9 => k_asm); (case k2_q9 => k_asm); (case k3_q9 => k_asm); (case k4_q9 => k_asm); (case k5_q9 => k_asm); (case k6_q9 => first | exact rfl | assumption); (case k7_q9 => exact DataAt.mono _ _ (Fr.keep (by k_asm)) (by assumption)); (case k8_q9 => ktr_room); (case k9_q9 => ktr_units)); intro t9 h9 tk9 st9 F9 N9; (try k_sweep); (try k_fold)); (all_goals (try ((with_reducible show wpAny _ _ _ _ _ _); (try revert t9); (try revert h9); (try revert tk9); (try revert st9); (try revert F9); (try revert N9); intros))))
  k_with "k0" => (k_here; (with_reducible show wpAny _ _ (callWith _ (Value.ref _) _ (backTo _ (starEach [] _)) []) _ _ _); k_dflt (refine' callWith_K0 ?k1_q9 ?k2_q9 ?_; (case k1_q9 => first | with_reducible assumption | exact Frag.In.keeps (by with_reducible assumption) (Fr.keep (by with_reducible assumption))); (case k2_q9 => k_is); k_whole))
  k_with "fold" => (k_fold; (with_reducible rename Dm => d9); revert d9; revert ek; revert qk; intro qk ek _)
  k_with "seal0" => k_extra "seal"
  k_with "seal" =>
    (with_reducible show wpAny _ _ (execs (_ :: _) _) _ _ _)
    (try k_extra "preseal")
    (fail_if_success (have y9 := ‹_›; (with_reducible have y8 : Rim := y9)))
    (repeat ((fail_if_success (have y9 := ‹_›; (with_reducible have y8 : Rim := y9))); first | ((fail_if_success (have y9 := ‹_›; have y8 : (_ : Prop) := y9)); clear (‹_›)) | revert (‹_›)))
    (repeat (first
      | ((with_reducible refine seal2 dHT ?_); (generalize sl2_0 _ _ = z8, sl2_1 _ _ = z7))
      | ((with_reducible refine seal1 dHp ?_); (generalize eps _ _ = z8))
      | ((with_reducible refine seal1 (0 : Nat) ?_); (generalize eps _ _ = z8))
      | ((with_reducible refine seal1 default ?_); (generalize eps _ _ = z8))
      | (with_reducible intro _)))
    ((with_reducible rename Rim => m9); revert m9; intro _)

  obtain ⟨hi, hc, hl⟩ := id hT
  obtain ⟨hD, hL⟩ := hP
  have hlen := hi.length
  k_with "while" =>
    k_dflt (refine' ksw_while (σ := Int × Tok) (fun _ => []) (fun c => [(Str.ofString "back", .int c.1 c.2)]) (fun _ => True) [] (fun k => -1 ≤ k.1 ∧ k.1 < i ∧ picB D tx (k.1 + 1).toNat = picB D tx (i - 2 + 1).toNat) (fun k => (k.1 + 1).toNat) (_, _) ?F ?N ?Fa ?hk ?hp ?turn; (case F => k_asm); (case hk => kst_all); (case N => k_asm); (case Fa => exact True.intro); (case hp => (dsimp only; exact ⟨by lia, by lia, rfl⟩)))
    rintro ⟨back, tb⟩ u h tk - ⟨b1, b2, b3⟩ F1 N1
    dsimp only [kstB] at b1 b2 b3 F1 N1 ⊢
    (revert back tb u h tk; refine seal5 (default, default, default, default, default) ?_; generalize sl5_0 _ _ = back, sl5_1 _ _ = tb, sl5_2 _ _ = u, sl5_3 _ _ = h, sl5_4 _ _ = tk; intro b1 b2 b3 F1 N1)
    all_goals (try ((with_reducible rename Rim => m9); revert m9; intro _))
  k_with "wend" =>
    refine ksw_end (_, _) (by assumption) (by assumption) (by kst_in) (by kst_facts) (by kst_all) (by ksw_same) ?_ ?_
    all_goals dsimp only
    · refine ⟨by lia, by lia, ?_⟩
      rw [← b3, picB_j (D := D) (tx := tx) (b := back) (by lia) (by assumption) (by assumption)]
    · lia
  ((try ((with_reducible rename Rim => m9); revert m9; intro _)); k_steps)
  all_goals (try dsimp only)
  all_goals (refine Done.mk (by assumption) (congrArg Value.bool ?_))
  all_goals first
    | exact (isPic_a (by assumption)).symm
    | exact (isPic_b (by assumption)).symm
    | exact (((isPic_c (by assumption) (by assumption)).trans b3.symm).trans (picB_p (by lia) (by assumption))).symm
    | exact (((isPic_c (by assumption) (by assumption)).trans b3.symm).trans (picB_n (by lia) (by assumption) (by assumption))).symm
    | exact (((isPic_c (by assumption) (by assumption)).trans b3.symm).trans (by rw [show (back + 1).toNat = 0 by lia]; rfl)).symm
def ri (D : Db) (tx : List Int) : Nat → Nat
  | 0 => 0
  | k + 1 => if (D.g (tx.getD k 0) == Str.ofString "Regional_Indicator") = true then ri D tx k + 1 else 0
theorem ri_y {D : Db} {tx : List Int} {i m : Int} (h0 : 0 ≤ m) (h : m < i) (hg : (D.g (tx.getD (i - 1 - m).toNat 0) == Str.ofString "Regional_Indicator") = true) : ri D tx (i - m).toNat = ri D tx (i - (m + 1)).toNat + 1 := by
  obtain ⟨k, hk⟩ : ∃ k : Nat, i - m = k + 1 := ⟨(i - m - 1).toNat, by lia⟩
  rw [show (i - m).toNat = k + 1 by lia, show (i - (m + 1)).toNat = k by lia]
  rw [show (i - 1 - m).toNat = k by lia] at hg
  show (if _ then _ else _) = _
  rw [if_pos hg]
theorem ri_n {D : Db} {tx : List Int} {i m : Int} (h0 : 0 ≤ m) (h : m < i) (hg : (D.g (tx.getD (i - 1 - m).toNat 0) == Str.ofString "Regional_Indicator") = false) : ri D tx (i - m).toNat = 0 := by
  obtain ⟨k, hk⟩ : ∃ k : Nat, i - m = k + 1 := ⟨(i - m - 1).toNat, by lia⟩
  rw [show (i - m).toNat = k + 1 by lia]
  rw [show (i - 1 - m).toNat = k by lia] at hg
  show (if _ then _ else _) = _
  rw [if_neg (ne_true_of_eq_false hg)]

theorem c_flags : ∀ (w : World) (d : Addr) (D : Db) (ta : Addr) (vs : List Value) (tx : List Int) (i : Int) (t : Tok), (Txt vs tx) → (0 ≤ i) → (i < tx.length) → Ctr w 80 8 [.ref ta, .int i t, .ref d] (TextAt w d D ta vs) (fun v => ∃ t, v = .int (ri D tx i.toNat) t) := by
  intro w d D ta vs tx i t hT h0 h1
  k_dflt (refine' Ctr.bodyX TextAt.mono (binds := [(Str.ofString "text", .ref ta), (Str.ofString "at", .int i t), (Str.ofString "data", .ref d)]) ?ho ?hcd ?hbind ?hloc ?h ?hcell ?hd1 ?hco ?hgen ?hk; (case ho => k_is); (case hcd => k_is); (case hbind => first | exact fun _ _ => BindsTo.of_eq rfl | exact fun _ X' => binds_K X' rfl (by k_is) rfl rfl rfl); (case hloc => exact locs rfl); (case hcell => decide); (case hd1 => decide); (case hco => exact rfl); (case hgen => exact rfl); (case hk => exact rfl))
  intro kx
  revert hT h0 h1
  revert w d D ta vs tx i t kx
  refine seal8 (dW, default, ⟨fun _ => default, fun _ => default, fun _ => false⟩, default, default, default, default, default) ?_
  generalize sl8_0 _ _ = w, sl8_1 _ _ = d, sl8_2 _ _ = D, sl8_3 _ _ = ta, sl8_4 _ _ = vs, sl8_5 _ _ = tx, sl8_6 _ _ = i, sl8_7 _ _ = t
  refine seal1 (dCx) ?_
  generalize eps _ _ = kx
  intro hT h0 h1
  intro B F N X T hdp hun hP
  have _ : Dm := Dm.mk
  have _ : Rim := Rim.mk
  k_with_none
  k_with "@KswEnd" => ((k_here; k_extra "wend"))
  k_with "@exec While BoolOp cons nil" => ((k_here; k_extra "while"))
  k_with "@call ref" => ((k_here; (with_reducible show wpAny _ _ (call (Value.ref 45) _) _ _ _); k_dflt (refine' Ctr.useT (c_kind _ _ _ _ _ (Codes.lo (by assumption) (by lia)) (Codes.hi (by assumption) (by lia))) ?k1_q9 ?k2_q9 ?k3_q9 ?k4_q9 ?k5_q9 ?k6_q9 ?k7_q9 ?k8_q9 ?k9_q9 ?_; (case k1_q9 => k_asm); (case k2_q9 => k_asm); (case k3_q9 => k_asm); (case k4_q9 => k_asm); (case k5_q9 => k_asm); (case k6_q9 => first | exact rfl | assumption); (case k7_q9 => exact DataAt.mono _ _ (Fr.keep (by k_asm)) (by assumption)); (case k8_q9 => ktr_room); (case k9_q9 => ktr_units)); intro t9 h9 tk9 st9 F9 N9; (try k_sweep); (try k_fold)); (all_goals (try ((with_reducible show wpAny _ _ _ _ _ _); (try revert t9); (try revert h9); (try revert tk9); (try revert st9); (try revert F9); (try revert N9); intros))))
  k_with "k0" => (k_here; (with_reducible show wpAny _ _ (callWith _ (Value.ref _) _ (backTo _ (starEach [] _)) []) _ _ _); k_dflt (refine' callWith_K0 ?k1_q9 ?k2_q9 ?_; (case k1_q9 => first | with_reducible assumption | exact Frag.In.keeps (by with_reducible assumption) (Fr.keep (by with_reducible assumption))); (case k2_q9 => k_is); k_whole))
  k_with "fold" => (k_fold; (with_reducible rename Dm => d9); revert d9; revert ek; revert qk; intro qk ek _)
  k_with "seal0" => k_extra "seal"
  k_with "seal" =>
    (with_reducible show wpAny _ _ (execs (_ :: _) _) _ _ _)
    (try k_extra "preseal")
    (fail_if_success (have y9 := ‹_›; (with_reducible have y8 : Rim := y9)))
    (repeat ((fail_if_success (have y9 := ‹_›; (with_reducible have y8 : Rim := y9))); first | ((fail_if_success (have y9 := ‹_›; have y8 : (_ : Prop) := y9)); clear (‹_›)) | revert (‹_›)))
    (repeat (first
      | ((with_reducible refine seal2 dHT ?_); (generalize sl2_0 _ _ = z8, sl2_1 _ _ = z7))
      | ((with_reducible refine seal1 dHp ?_); (generalize eps _ _ = z8))
      | ((with_reducible refine seal1 (0 : Nat) ?_); (generalize eps _ _ = z8))
      | ((with_reducible refine seal1 default ?_); (generalize eps _ _ = z8))
      | (with_reducible intro _)))
    ((with_reducible rename Rim => m9); revert m9; intro _)

  obtain ⟨hi, hc, hl⟩ := id hT
  obtain ⟨hD, hL⟩ := hP
  have hlen := hi.length
  k_with "while" =>
    k_dflt (refine' ksw_while (σ := Int × Tok) (fun _ => []) (fun c => [(Str.ofString "many", .int c.1 c.2)]) (fun _ => True) [] (fun k => 0 ≤ k.1 ∧ k.1 ≤ i ∧ (ri D tx i.toNat : Int) = k.1 + ri D tx (i - k.1).toNat) (fun k => (i - k.1).toNat) (_, _) ?F ?N ?Fa ?hk ?hp ?turn; (case F => k_asm); (case hk => kst_all); (case N => k_asm); (case Fa => exact True.intro); (case hp => (dsimp only; exact ⟨by lia, by lia, by simp⟩)))
    rintro ⟨many, tb⟩ u h tk - ⟨b1, b2, b3⟩ F1 N1
    dsimp only [kstB] at b1 b2 b3 F1 N1 ⊢
    (revert many tb u h tk; refine seal5 (default, default, default, default, default) ?_; generalize sl5_0 _ _ = many, sl5_1 _ _ = tb, sl5_2 _ _ = u, sl5_3 _ _ = h, sl5_4 _ _ = tk; intro b1 b2 b3 F1 N1)
    all_goals (try ((with_reducible rename Rim => m9); revert m9; intro _))
  k_with "wend" =>
    refine ksw_end (_, _) (by assumption) (by assumption) (by kst_in) (by kst_facts) (by kst_all) (by ksw_same) ?_ ?_
    all_goals dsimp only
    · have := ri_y (D := D) (tx := tx) (i := i) (m := many) (by lia) (by lia) (by assumption)
      refine ⟨by lia, by lia, by lia⟩
    · lia
  ((try ((with_reducible rename Rim => m9); revert m9; intro _)); k_steps)
  all_goals (try dsimp only)
  all_goals refine Done.mk (by assumption) (int_ex ?_)
  all_goals first
    | (have := ri_n (D := D) (tx := tx) (i := i) (m := many) (by lia) (by lia) (by assumption); lia)
    | (rw [show (i - many).toNat = 0 by lia] at b3; simp [ri] at b3; lia)
def isFlag (D : Db) (tx : List Int) (i : Int) : Bool := (D.g (tx.getD i.toNat 0) == Str.ofString "Regional_Indicator") && decide (ri D tx i.toNat % 2 = 1)
theorem isFlag_n {D : Db} {tx : List Int} {i : Int} (h : (D.g (tx.getD i.toNat 0) != Str.ofString "Regional_Indicator") = true) : isFlag D tx i = false := by
  have h' : (D.g (tx.getD i.toNat 0) == Str.ofString "Regional_Indicator") = false := by simpa [bne] using h
  unfold isFlag; rw [h']; rfl
theorem isFlag_y {D : Db} {tx : List Int} {i : Int} (h : (D.g (tx.getD i.toNat 0) != Str.ofString "Regional_Indicator") = false) : isFlag D tx i = ((ri D tx i.toNat : Int).fmod 2 == 1) := by
  have h' : (D.g (tx.getD i.toNat 0) == Str.ofString "Regional_Indicator") = true := by simpa [bne] using h
  unfold isFlag; rw [h', Bool.true_and, Int.fmod_eq_emod_of_nonneg _ (by decide)]
  rw [Bool.eq_iff_iff]
  simp only [decide_eq_true_eq, beq_iff_eq]
  lia
theorem c_flag : ∀ (w : World) (d : Addr) (D : Db) (ta : Addr) (vs : List Value) (tx : List Int) (i : Int) (t : Tok), (Txt vs tx) → (0 ≤ i) → (i < tx.length) → Ctr w 87 10 [.ref ta, .int i t, .ref d] (TextAt w d D ta vs) (fun v => v = .bool (isFlag D tx i)) := by
  intro w d D ta vs tx i t hT h0 h1
  k_dflt (refine' Ctr.bodyX TextAt.mono (binds := [(Str.ofString "text", .ref ta), (Str.ofString "at", .int i t), (Str.ofString "data", .ref d)]) ?ho ?hcd ?hbind ?hloc ?h ?hcell ?hd1 ?hco ?hgen ?hk; (case ho => k_is); (case hcd => k_is); (case hbind => first | exact fun _ _ => BindsTo.of_eq rfl | exact fun _ X' => binds_K X' rfl (by k_is) rfl rfl rfl); (case hloc => exact locs rfl); (case hcell => decide); (case hd1 => decide); (case hco => exact rfl); (case hgen => exact rfl); (case hk => exact rfl))
  intro kx
  revert hT h0 h1
  revert w d D ta vs tx i t kx
  refine seal8 (dW, default, ⟨fun _ => default, fun _ => default, fun _ => false⟩, default, default, default, default, default) ?_
  generalize sl8_0 _ _ = w, sl8_1 _ _ = d, sl8_2 _ _ = D, sl8_3 _ _ = ta, sl8_4 _ _ = vs, sl8_5 _ _ = tx, sl8_6 _ _ = i, sl8_7 _ _ = t
  refine seal1 (dCx) ?_
  generalize eps _ _ = kx
  intro hT h0 h1
  w_top off
  intro B F N X T hdp hun hP
  have _ : Dm := Dm.mk
  have _ : Rim := Rim.mk
  k_with_none
  k_with "@call ref" => ((k_here; (with_reducible show wpAny _ _ (call (Value.ref 45) _) _ _ _); k_dflt (refine' Ctr.useT (c_kind _ _ _ _ _ (Codes.lo (by assumption) (by lia)) (Codes.hi (by assumption) (by lia))) ?k1_q9 ?k2_q9 ?k3_q9 ?k4_q9 ?k5_q9 ?k6_q9 ?k7_q9 ?k8_q9 ?k9_q9 ?_; (case k1_q9 => k_asm); (case k2_q9 => k_asm); (case k3_q9 => k_asm); (case k4_q9 => k_asm); (case k5_q9 => k_asm); (case k6_q9 => first | exact rfl | assumption); (case k7_q9 => exact DataAt.mono _ _ (Fr.keep (by k_asm)) (by assumption)); (case k8_q9 => ktr_room); (case k9_q9 => ktr_units)); intro t9 h9 tk9 st9 F9 N9; (try k_sweep); (try k_fold)); (all_goals (try ((with_reducible show wpAny _ _ _ _ _ _); (try revert t9); (try revert h9); (try revert tk9); (try revert st9); (try revert F9); (try revert N9); intros))))
  k_with "@call ref" => ((k_here; (with_reducible show wpAny _ _ (call (Value.ref 80) _) _ _ _); k_dflt (refine' Ctr.useT (c_flags _ _ _ _ _ _ _ _ (by assumption) (by lia) (by lia)) ?k1_q9 ?k2_q9 ?k3_q9 ?k4_q9 ?k5_q9 ?k6_q9 ?k7_q9 ?k8_q9 ?k9_q9 ?_; (case k1_q9 => k_asm); (case k2_q9 => k_asm); (case k3_q9 => k_asm); (case k4_q9 => k_asm); (case k5_q9 => k_asm); (case k6_q9 => first | exact rfl | assumption); (case k7_q9 => exact TextAt.mono _ _ (Fr.keep (by k_asm)) (by assumption)); (case k8_q9 => ktr_room); (case k9_q9 => ktr_units)); intro t9 h9 tk9 st9 F9 N9; (try k_sweep); (try k_fold)); (all_goals (try ((with_reducible show wpAny _ _ _ _ _ _); (try revert t9); (try revert h9); (try revert tk9); (try revert st9); (try revert F9); (try revert N9); intros))))
  k_with "k0" => (k_here; (with_reducible show wpAny _ _ (callWith _ (Value.ref _) _ (backTo _ (starEach [] _)) []) _ _ _); k_dflt (refine' callWith_K0 ?k1_q9 ?k2_q9 ?_; (case k1_q9 => first | with_reducible assumption | exact Frag.In.keeps (by with_reducible assumption) (Fr.keep (by with_reducible assumption))); (case k2_q9 => k_is); k_whole))
  k_with "fold" => (k_fold; (with_reducible rename Dm => d9); revert d9; revert ek; revert qk; intro qk ek _)
  k_with "seal0" => k_extra "seal"
  k_with "seal" =>
    (with_reducible show wpAny _ _ (execs (_ :: _) _) _ _ _)
    (try k_extra "preseal")
    (fail_if_success (have y9 := ‹_›; (with_reducible have y8 : Rim := y9)))
    (repeat ((fail_if_success (have y9 := ‹_›; (with_reducible have y8 : Rim := y9))); first | ((fail_if_success (have y9 := ‹_›; have y8 : (_ : Prop) := y9)); clear (‹_›)) | revert (‹_›)))
    (repeat (first
      | ((with_reducible refine seal2 dHT ?_); (generalize sl2_0 _ _ = z8, sl2_1 _ _ = z7))
      | ((with_reducible refine seal1 dHp ?_); (generalize eps _ _ = z8))
      | ((with_reducible refine seal1 (0 : Nat) ?_); (generalize eps _ _ = z8))
      | ((with_reducible refine seal1 default ?_); (generalize eps _ _ = z8))
      | (with_reducible intro _)))
    ((with_reducible rename Rim => m9); revert m9; intro _)

  obtain ⟨hi, hc, hl⟩ := id hT
  have hPT := hP
  obtain ⟨hD, hL⟩ := hP
  have hlen := hi.length
  ((try ((with_reducible rename Rim => m9); revert m9; intro _)); k_steps)
  all_goals (try dsimp only)
  all_goals (refine Done.mk (by assumption) (congrArg Value.bool ?_))
  all_goals first
    | exact (isFlag_n (by assumption)).symm
    | exact (isFlag_y (by assumption)).symm

def brk (D : Db) (tx : List Int) (i : Int) (leg : Bool) : Bool :=
  if i = 0 ∨ i = tx.length then decide (tx ≠ []) else
    match pairS (D.g (tx.getD (i - 1).toNat 0)) (D.g (tx.getD i.toNat 0)) leg with
    | some b => b
    | none => !((!leg && isConj D tx i) || isPic D tx i || isFlag D tx i)
theorem brk_end {D : Db} {tx : List Int} {i : Int} {leg : Bool} (h : i = 0 ∨ i = tx.length) : brk D tx i leg = !decide (tx = []) := by
  unfold brk; rw [if_pos h]; simp
theorem brk_some {D : Db} {tx : List Int} {i : Int} {leg b : Bool} (h : i ≠ 0) (h' : i ≠ tx.length) (hq : pairS (D.g (tx.getD (i - 1).toNat 0)) (D.g (tx.getD i.toNat 0)) leg = some b) : brk D tx i leg = b := by
  unfold brk; rw [if_neg (by lia), hq]
theorem brk_none {D : Db} {tx : List Int} {i : Int} {leg : Bool} (h : i ≠ 0) (h' : i ≠ tx.length) (hq : pairS (D.g (tx.getD (i - 1).toNat 0)) (D.g (tx.getD i.toNat 0)) leg = none) : brk D tx i leg = !((!leg && isConj D tx i) || isPic D tx i || isFlag D tx i) := by
  unfold brk; rw [if_neg (by lia), hq]
theorem c_break : ∀ (w : World) (d : Addr) (D : Db) (ta : Addr) (vs : List Value) (tx : List Int) (i : Int) (t : Tok) (leg : Bool), (Txt vs tx) → (0 ≤ i) → (i ≤ tx.length) → Ctr w 95 12 [.ref ta, .int i t, .ref d, .bool leg] (TextAt w d D ta vs) (fun v => v = .bool (brk D tx i leg)) := by
  intro w d D ta vs tx i t leg hT h0 h1
  k_dflt (refine' Ctr.bodyX TextAt.mono (binds := [(Str.ofString "text", .ref ta), (Str.ofString "at", .int i t), (Str.ofString "data", .ref d), (Str.ofString "is_legacy", .bool leg)]) ?ho ?hcd ?hbind ?hloc ?h ?hcell ?hd1 ?hco ?hgen ?hk; (case ho => k_is); (case hcd => k_is); (case hbind => first | exact fun _ _ => BindsTo.of_eq rfl | exact fun _ X' => binds_K X' rfl (by k_is) rfl rfl rfl); (case hloc => exact locs rfl); (case hcell => decide); (case hd1 => decide); (case hco => exact rfl); (case hgen => exact rfl); (case hk => exact rfl))
  intro kx
  revert hT h0 h1
  revert w d D ta vs tx i t leg kx
  refine seal8 (dW, default, ⟨fun _ => default, fun _ => default, fun _ => false⟩, default, default, default, default, default) ?_
  generalize sl8_0 _ _ = w, sl8_1 _ _ = d, sl8_2 _ _ = D, sl8_3 _ _ = ta, sl8_4 _ _ = vs, sl8_5 _ _ = tx, sl8_6 _ _ = i, sl8_7 _ _ = t
  refine seal2 (default, dCx) ?_
  generalize sl2_0 _ _ = leg, sl2_1 _ _ = kx
  intro hT h0 h1
  intro B F N X T hdp hun hP
  have _ : Dm := Dm.mk
  have _ : Rim := Rim.mk
  k_with_none
  k_with "@call ref" => ((k_here; (with_reducible show wpAny _ _ (call (Value.ref 45) _) _ _ _); k_dflt (refine' Ctr.useT (c_kind _ _ _ _ _ (Codes.lo (by assumption) (by lia)) (Codes.hi (by assumption) (by lia))) ?k1_q9 ?k2_q9 ?k3_q9 ?k4_q9 ?k5_q9 ?k6_q9 ?k7_q9 ?k8_q9 ?k9_q9 ?_; (case k1_q9 => k_asm); (case k2_q9 => k_asm); (case k3_q9 => k_asm); (case k4_q9 => k_asm); (case k5_q9 => k_asm); (case k6_q9 => first | exact rfl | assumption); (case k7_q9 => exact DataAt.mono _ _ (Fr.keep (by k_asm)) (by assumption)); (case k8_q9 => ktr_room); (case k9_q9 => ktr_units)); intro t9 h9 tk9 st9 F9 N9; (try k_sweep); (try k_fold)); (all_goals (try ((with_reducible show wpAny _ _ _ _ _ _); (try revert t9); (try revert h9); (try revert tk9); (try revert st9); (try revert F9); (try revert N9); intros))))
  k_with "@call ref" => ((k_here; (with_reducible show wpAny _ _ (call (Value.ref 66) _) _ _ _); k_dflt (refine' Ctr.useV (c_conj _ _ _ _ _ _ _ _ (by assumption) (by lia) (by lia)) ?k1_q9 ?k2_q9 ?k3_q9 ?k4_q9 ?k5_q9 ?k6_q9 ?k7_q9 ?k8_q9 ?k9_q9 ?_; (case k1_q9 => k_asm); (case k2_q9 => k_asm); (case k3_q9 => k_asm); (case k4_q9 => k_asm); (case k5_q9 => k_asm); (case k6_q9 => first | exact rfl | assumption); (case k7_q9 => exact TextAt.mono _ _ (Fr.keep (by k_asm)) (by assumption)); (case k8_q9 => ktr_room); (case k9_q9 => ktr_units)); intro h9 tk9 st9 F9 N9; (try k_sweep); (try k_fold)); (all_goals (try ((with_reducible show wpAny _ _ _ _ _ _); (try revert h9); (try revert tk9); (try revert st9); (try revert F9); (try revert N9); intros))))
  k_with "@call ref" => ((k_here; (with_reducible show wpAny _ _ (call (Value.ref 73) _) _ _ _); k_dflt (refine' Ctr.useV (c_pic _ _ _ _ _ _ _ _ (by assumption) (by lia) (by lia)) ?k1_q9 ?k2_q9 ?k3_q9 ?k4_q9 ?k5_q9 ?k6_q9 ?k7_q9 ?k8_q9 ?k9_q9 ?_; (case k1_q9 => k_asm); (case k2_q9 => k_asm); (case k3_q9 => k_asm); (case k4_q9 => k_asm); (case k5_q9 => k_asm); (case k6_q9 => first | exact rfl | assumption); (case k7_q9 => exact TextAt.mono _ _ (Fr.keep (by k_asm)) (by assumption)); (case k8_q9 => ktr_room); (case k9_q9 => ktr_units)); intro h9 tk9 st9 F9 N9; (try k_sweep); (try k_fold)); (all_goals (try ((with_reducible show wpAny _ _ _ _ _ _); (try revert h9); (try revert tk9); (try revert st9); (try revert F9); (try revert N9); intros))))
  k_with "@call ref" => ((k_here; (with_reducible show wpAny _ _ (call (Value.ref 59) _) _ _ _); k_dflt (refine' Ctr.useV (c_pair _ _ _ _ _ _) ?k1_q9 ?k2_q9 ?k3_q9 ?k4_q9 ?k5_q9 ?k6_q9 ?k7_q9 ?k8_q9 ?k9_q9 ?_; (case k1_q9 => k_asm); (case k2_q9 => k_asm); (case k3_q9 => k_asm); (case k4_q9 => k_asm); (case k5_q9 => k_asm); (case k6_q9 => first | exact rfl | assumption); (case k7_q9 => trivial); (case k8_q9 => ktr_room); (case k9_q9 => ktr_units)); intro h9 tk9 st9 F9 N9; (rcases hq9 : pairS _ _ _ with _ | b9 <;> (simp only [optV])); (try k_sweep); (try k_fold)); (all_goals (try ((with_reducible show wpAny _ _ _ _ _ _); (try revert h9); (try revert tk9); (try revert st9); (try revert F9); (try revert N9); intros))))
  k_with "@call ref" => ((k_here; (with_reducible show wpAny _ _ (call (Value.ref 87) _) _ _ _); k_dflt (refine' Ctr.useV (c_flag _ _ _ _ _ _ _ _ (by assumption) (by lia) (by lia)) ?k1_q9 ?k2_q9 ?k3_q9 ?k4_q9 ?k5_q9 ?k6_q9 ?k7_q9 ?k8_q9 ?k9_q9 ?_; (case k1_q9 => k_asm); (case k2_q9 => k_asm); (case k3_q9 => k_asm); (case k4_q9 => k_asm); (case k5_q9 => k_asm); (case k6_q9 => first | exact rfl | assumption); (case k7_q9 => exact TextAt.mono _ _ (Fr.keep (by k_asm)) (by assumption)); (case k8_q9 => ktr_room); (case k9_q9 => ktr_units)); intro h9 tk9 st9 F9 N9; (try k_sweep); (try k_fold)); (all_goals (try ((with_reducible show wpAny _ _ _ _ _ _); (try revert h9); (try revert tk9); (try revert st9); (try revert F9); (try revert N9); intros))))
  k_with "k0" => (k_here; (with_reducible show wpAny _ _ (callWith _ (Value.ref _) _ (backTo _ (starEach [] _)) []) _ _ _); k_dflt (refine' callWith_K0 ?k1_q9 ?k2_q9 ?_; (case k1_q9 => first | with_reducible assumption | exact Frag.In.keeps (by with_reducible assumption) (Fr.keep (by with_reducible assumption))); (case k2_q9 => k_is); k_whole))
  k_with "fold" => (k_fold; (with_reducible rename Dm => d9); revert d9; revert ek; revert qk; intro qk ek _)
  k_with "seal0" => k_extra "seal"
  k_with "seal" =>
    (with_reducible show wpAny _ _ (execs (_ :: _) _) _ _ _)
    (try k_extra "preseal")
    (fail_if_success (have y9 := ‹_›; (with_reducible have y8 : Rim := y9)))
    (repeat ((fail_if_success (have y9 := ‹_›; (with_reducible have y8 : Rim := y9))); first | ((fail_if_success (have y9 := ‹_›; have y8 : (_ : Prop) := y9)); clear (‹_›)) | revert (‹_›)))
    (repeat (first
      | ((with_reducible refine seal2 dHT ?_); (generalize sl2_0 _ _ = z8, sl2_1 _ _ = z7))
      | ((with_reducible refine seal1 dHp ?_); (generalize eps _ _ = z8))
      | ((with_reducible refine seal1 (0 : Nat) ?_); (generalize eps _ _ = z8))
      | ((with_reducible refine seal1 default ?_); (generalize eps _ _ = z8))
      | (with_reducible intro _)))
    ((with_reducible rename Rim => m9); revert m9; intro _)

  obtain ⟨hi, hc, hl⟩ := id hT
  have hPT := hP
  obtain ⟨hD, hL⟩ := hP
  have hlen := hi.length
  ((try ((with_reducible rename Rim => m9); revert m9; intro _)); k_steps)
  all_goals (try dsimp only)
  all_goals (refine Done.mk (by assumption) (congrArg Value.bool ?_))
  all_goals first
    | exact (brk_end (by lia)).symm
    | exact (brk_some (by assumption) (by assumption) (by assumption)).symm
    | (rw [brk_none (by assumption) (by assumption) (by assumption)]; simp only [*, Bool.not_true, Bool.not_false, Bool.true_and, Bool.false_and, Bool.true_or, Bool.or_true, Bool.false_or]; done)
def nxtF (D : Db) (tx : List Int) (leg : Bool) : Nat → Int → Int
  | 0, f => f
  | k + 1, f => if brk D tx f leg = true then f else nxtF D tx leg k (f + 1)
def nxt (D : Db) (tx : List Int) (leg : Bool) (i : Int) : Int := nxtF D tx leg ((tx.length : Int) - (i + 1)).toNat (i + 1)
theorem nxtF_y {D : Db} {tx : List Int} {leg : Bool} {f : Int} (h : f < tx.length) (hb : brk D tx f leg = true) : nxtF D tx leg ((tx.length : Int) - f).toNat f = f := by
  obtain ⟨k, hk⟩ : ∃ k : Nat, ((tx.length : Int) - f).toNat = k + 1 := ⟨((tx.length : Int) - f).toNat - 1, by lia⟩
  rw [hk]; unfold nxtF; rw [if_pos hb]
theorem nxtF_n {D : Db} {tx : List Int} {leg : Bool} {f : Int} (h : f < tx.length) (hb : brk D tx f leg = false) : nxtF D tx leg ((tx.length : Int) - f).toNat f = nxtF D tx leg ((tx.length : Int) - (f + 1)).toNat (f + 1) := by
  obtain ⟨k, hk⟩ : ∃ k : Nat, ((tx.length : Int) - f).toNat = k + 1 := ⟨((tx.length : Int) - f).toNat - 1, by lia⟩
  rw [hk, show ((tx.length : Int) - (f + 1)).toNat = k by lia]
  show (if _ then _ else _) = _
  rw [if_neg (ne_true_of_eq_false hb)]
theorem nxtF_0 {D : Db} {tx : List Int} {leg : Bool} {f : Int} (h : ¬ f < tx.length) : nxtF D tx leg ((tx.length : Int) - f).toNat f = f := by
  rw [show ((tx.length : Int) - f).toNat = 0 by lia]; rfl
theorem c_next : ∀ (w : World) (d : Addr) (D : Db) (ta : Addr) (vs : List Value) (tx : List Int) (i : Int) (t : Tok) (leg : Bool), (Txt vs tx) → (0 ≤ i) → (i < tx.length) → Ctr w 109 14 [.ref ta, .int i t, .ref d, .bool leg] (TextAt w d D ta vs) (fun v => ∃ t, v = .int (nxt D tx leg i) t) := by
  intro w d D ta vs tx i t leg hT h0 h1
  k_dflt (refine' Ctr.bodyX TextAt.mono (binds := [(Str.ofString "text", .ref ta), (Str.ofString "at", .int i t), (Str.ofString "data", .ref d), (Str.ofString "is_legacy", .bool leg)]) ?ho ?hcd ?hbind ?hloc ?h ?hcell ?hd1 ?hco ?hgen ?hk; (case ho => k_is); (case hcd => k_is); (case hbind => first | exact fun _ _ => BindsTo.of_eq rfl | exact fun _ X' => binds_K X' rfl (by k_is) rfl rfl rfl); (case hloc => exact locs rfl); (case hcell => decide); (case hd1 => decide); (case hco => exact rfl); (case hgen => exact rfl); (case hk => exact rfl))
  intro kx
  revert hT h0 h1
  revert w d D ta vs tx i t leg kx
  refine seal8 (dW, default, ⟨fun _ => default, fun _ => default, fun _ => false⟩, default, default, default, default, default) ?_
  generalize sl8_0 _ _ = w, sl8_1 _ _ = d, sl8_2 _ _ = D, sl8_3 _ _ = ta, sl8_4 _ _ = vs, sl8_5 _ _ = tx, sl8_6 _ _ = i, sl8_7 _ _ = t
  refine seal2 (default, dCx) ?_
  generalize sl2_0 _ _ = leg, sl2_1 _ _ = kx
  intro hT h0 h1
  w_top off
  intro B F N X T hdp hun hP
  have _ : Dm := Dm.mk
  have _ : Rim := Rim.mk
  k_with_none
  k_with "@KswEnd" => ((k_here; k_extra "wend"))
  k_with "@exec While BoolOp cons nil" => ((k_here; k_extra "while"))
  k_with "@call ref" => ((k_here; (with_reducible show wpAny _ _ (call (Value.ref 95) _) _ _ _); k_dflt (refine' Ctr.useV (c_break _ _ _ _ _ _ _ _ _ (by assumption) (by lia) (by lia)) ?k1_q9 ?k2_q9 ?k3_q9 ?k4_q9 ?k5_q9 ?k6_q9 ?k7_q9 ?k8_q9 ?k9_q9 ?_; (case k1_q9 => k_asm); (case k2_q9 => k_asm); (case k3_q9 => k_asm); (case k4_q9 => k_asm); (case k5_q9 => k_asm); (case k6_q9 => first | exact rfl | assumption); (case k7_q9 => exact TextAt.mono _ _ (Fr.keep (by k_asm)) (by assumption)); (case k8_q9 => ktr_room); (case k9_q9 => ktr_units)); intro h9 tk9 st9 F9 N9; (try k_sweep); (try k_fold)); (all_goals (try ((with_reducible show wpAny _ _ _ _ _ _); (try revert h9); (try revert tk9); (try revert st9); (try revert F9); (try revert N9); intros))))
  k_with "k0" => (k_here; (with_reducible show wpAny _ _ (callWith _ (Value.ref _) _ (backTo _ (starEach [] _)) []) _ _ _); k_dflt (refine' callWith_K0 ?k1_q9 ?k2_q9 ?_; (case k1_q9 => first | with_reducible assumption | exact Frag.In.keeps (by with_reducible assumption) (Fr.keep (by with_reducible assumption))); (case k2_q9 => k_is); k_whole))
  k_with "fold" => (k_fold; (with_reducible rename Dm => d9); revert d9; revert ek; revert qk; intro qk ek _)
  k_with "seal0" => k_extra "seal"
  k_with "seal" =>
    (with_reducible show wpAny _ _ (execs (_ :: _) _) _ _ _)
    (try k_extra "preseal")
    (fail_if_success (have y9 := ‹_›; (with_reducible have y8 : Rim := y9)))
    (repeat ((fail_if_success (have y9 := ‹_›; (with_reducible have y8 : Rim := y9))); first | ((fail_if_success (have y9 := ‹_›; have y8 : (_ : Prop) := y9)); clear (‹_›)) | revert (‹_›)))
    (repeat (first
      | ((with_reducible refine seal2 dHT ?_); (generalize sl2_0 _ _ = z8, sl2_1 _ _ = z7))
      | ((with_reducible refine seal1 dHp ?_); (generalize eps _ _ = z8))
      | ((with_reducible refine seal1 (0 : Nat) ?_); (generalize eps _ _ = z8))
      | ((with_reducible refine seal1 default ?_); (generalize eps _ _ = z8))
      | (with_reducible intro _)))
    ((with_reducible rename Rim => m9); revert m9; intro _)

  obtain ⟨hi, hc, hl⟩ := id hT
  have hPT := hP
  obtain ⟨hD, hL⟩ := hP
  have hlen := hi.length
  k_with "while" =>
    k_dflt (refine' ksw_while (σ := Int × Tok) (fun _ => []) (fun c => [(Str.ofString "found", .int c.1 c.2)]) (fun _ => True) [] (fun k => i + 1 ≤ k.1 ∧ k.1 ≤ (tx.length : Int) ∧ nxtF D tx leg ((tx.length : Int) - k.1).toNat k.1 = nxt D tx leg i) (fun k => ((tx.length : Int) - k.1).toNat) (_, _) ?F ?N ?Fa ?hk ?hp ?turn; (case F => k_asm); (case hk => kst_all); (case N => k_asm); (case Fa => exact True.intro); (case hp => (dsimp only; exact ⟨by lia, by lia, rfl⟩)))
    rintro ⟨found, tb⟩ u h tk - ⟨b1, b2, b3⟩ F1 N1
    dsimp only [kstB] at b1 b2 b3 F1 N1 ⊢
    (revert found tb u h tk; refine seal5 (default, default, default, default, default) ?_; generalize sl5_0 _ _ = found, sl5_1 _ _ = tb, sl5_2 _ _ = u, sl5_3 _ _ = h, sl5_4 _ _ = tk; intro b1 b2 b3 F1 N1)
    all_goals (try ((with_reducible rename Rim => m9); revert m9; intro _))
  k_with "wend" =>
    refine ksw_end (_, _) (by assumption) (by assumption) (by kst_in) (by kst_facts) (by kst_all) (by ksw_same) ?_ ?_
    all_goals dsimp only
    · exact ⟨by lia, by lia, (nxtF_n (by lia) (by assumption)).symm.trans b3⟩
    · lia
  ((try ((with_reducible rename Rim => m9); revert m9; intro _)); k_steps)
  all_goals (try dsimp only)
  all_goals refine Done.mk (by assumption) (int_ex ?_)
  all_goals rw [← b3]
  all_goals first
    | (rw [nxtF_y (by lia) (by assumption)]; lia)
    | (rw [nxtF_0 (by lia)]; lia)

def prv (D : Db) (tx : List Int) (leg : Bool) : Nat → Int
  | 0 => 0
  | k + 1 => if brk D tx ((k : Int) + 1) leg = true then (k : Int) + 1 else prv D tx leg k
theorem prv_y {D : Db} {tx : List Int} {leg : Bool} {f : Int} (h : 0 < f) (hb : brk D tx f leg = true) : prv D tx leg f.toNat = f := by
  obtain ⟨k, rfl⟩ : ∃ k : Nat, f = (k : Int) + 1 := ⟨(f - 1).toNat, by lia⟩
  rw [show ((k : Int) + 1).toNat = k + 1 by lia]; unfold prv; rw [if_pos hb]
theorem prv_n {D : Db} {tx : List Int} {leg : Bool} {f : Int} (h : 0 < f) (hb : brk D tx f leg = false) : prv D tx leg f.toNat = prv D tx leg (f - 1).toNat := by
  obtain ⟨k, rfl⟩ : ∃ k : Nat, f = (k : Int) + 1 := ⟨(f - 1).toNat, by lia⟩
  rw [show ((k : Int) + 1).toNat = k + 1 by lia, show ((k : Int) + 1 - 1).toNat = k by lia]
  show (if _ then _ else _) = _
  rw [if_neg (ne_true_of_eq_false hb)]
theorem c_prev : ∀ (w : World) (d : Addr) (D : Db) (ta : Addr) (vs : List Value) (tx : List Int) (i : Int) (t : Tok) (leg : Bool), (Txt vs tx) → (0 < i) → (i ≤ tx.length) → Ctr w 117 14 [.ref ta, .int i t, .ref d, .bool leg] (TextAt w d D ta vs) (fun v => ∃ t, v = .int (prv D tx leg (i - 1).toNat) t) := by
  intro w d D ta vs tx i t leg hT h0 h1
  k_dflt (refine' Ctr.bodyX TextAt.mono (binds := [(Str.ofString "text", .ref ta), (Str.ofString "at", .int i t), (Str.ofString "data", .ref d), (Str.ofString "is_legacy", .bool leg)]) ?ho ?hcd ?hbind ?hloc ?h ?hcell ?hd1 ?hco ?hgen ?hk; (case ho => k_is); (case hcd => k_is); (case hbind => first | exact fun _ _ => BindsTo.of_eq rfl | exact fun _ X' => binds_K X' rfl (by k_is) rfl rfl rfl); (case hloc => exact locs rfl); (case hcell => decide); (case hd1 => decide); (case hco => exact rfl); (case hgen => exact rfl); (case hk => exact rfl))
  intro kx
  revert hT h0 h1
  revert w d D ta vs tx i t leg kx
  refine seal8 (dW, default, ⟨fun _ => default, fun _ => default, fun _ => false⟩, default, default, default, default, default) ?_
  generalize sl8_0 _ _ = w, sl8_1 _ _ = d, sl8_2 _ _ = D, sl8_3 _ _ = ta, sl8_4 _ _ = vs, sl8_5 _ _ = tx, sl8_6 _ _ = i, sl8_7 _ _ = t
  refine seal2 (default, dCx) ?_
  generalize sl2_0 _ _ = leg, sl2_1 _ _ = kx
  intro hT h0 h1
  intro B F N X T hdp hun hP
  have _ : Dm := Dm.mk
  have _ : Rim := Rim.mk
  k_with_none
  k_with "@KswEnd" => ((k_here; k_extra "wend"))
  k_with "@exec While BoolOp cons nil" => ((k_here; k_extra "while"))
  k_with "@call ref" => ((k_here; (with_reducible show wpAny _ _ (call (Value.ref 95) _) _ _ _); k_dflt (refine' Ctr.useV (c_break _ _ _ _ _ _ _ _ _ (by assumption) (by lia) (by lia)) ?k1_q9 ?k2_q9 ?k3_q9 ?k4_q9 ?k5_q9 ?k6_q9 ?k7_q9 ?k8_q9 ?k9_q9 ?_; (case k1_q9 => k_asm); (case k2_q9 => k_asm); (case k3_q9 => k_asm); (case k4_q9 => k_asm); (case k5_q9 => k_asm); (case k6_q9 => first | exact rfl | assumption); (case k7_q9 => exact TextAt.mono _ _ (Fr.keep (by k_asm)) (by assumption)); (case k8_q9 => ktr_room); (case k9_q9 => ktr_units)); intro h9 tk9 st9 F9 N9; (try k_sweep); (try k_fold)); (all_goals (try ((with_reducible show wpAny _ _ _ _ _ _); (try revert h9); (try revert tk9); (try revert st9); (try revert F9); (try revert N9); intros))))
  k_with "k0" => (k_here; (with_reducible show wpAny _ _ (callWith _ (Value.ref _) _ (backTo _ (starEach [] _)) []) _ _ _); k_dflt (refine' callWith_K0 ?k1_q9 ?k2_q9 ?_; (case k1_q9 => first | with_reducible assumption | exact Frag.In.keeps (by with_reducible assumption) (Fr.keep (by with_reducible assumption))); (case k2_q9 => k_is); k_whole))
  k_with "fold" => (k_fold; (with_reducible rename Dm => d9); revert d9; revert ek; revert qk; intro qk ek _)
  k_with "seal0" => k_extra "seal"
  k_with "seal" =>
    (with_reducible show wpAny _ _ (execs (_ :: _) _) _ _ _)
    (try k_extra "preseal")
    (fail_if_success (have y9 := ‹_›; (with_reducible have y8 : Rim := y9)))
    (repeat ((fail_if_success (have y9 := ‹_›; (with_reducible have y8 : Rim := y9))); first | ((fail_if_success (have y9 := ‹_›; have y8 : (_ : Prop) := y9)); clear (‹_›)) | revert (‹_›)))
    (repeat (first
      | ((with_reducible refine seal2 dHT ?_); (generalize sl2_0 _ _ = z8, sl2_1 _ _ = z7))
      | ((with_reducible refine seal1 dHp ?_); (generalize eps _ _ = z8))
      | ((with_reducible refine seal1 (0 : Nat) ?_); (generalize eps _ _ = z8))
      | ((with_reducible refine seal1 default ?_); (generalize eps _ _ = z8))
      | (with_reducible intro _)))
    ((with_reducible rename Rim => m9); revert m9; intro _)

  obtain ⟨hi, hc, hl⟩ := id hT
  have hPT := hP
  obtain ⟨hD, hL⟩ := hP
  have hlen := hi.length
  k_with "while" =>
    k_dflt (refine' ksw_while (σ := Int × Tok) (fun _ => []) (fun c => [(Str.ofString "found", .int c.1 c.2)]) (fun _ => True) [] (fun k => 0 ≤ k.1 ∧ k.1 < i ∧ prv D tx leg k.1.toNat = prv D tx leg (i - 1).toNat) (fun k => k.1.toNat) (_, _) ?F ?N ?Fa ?hk ?hp ?turn; (case F => k_asm); (case hk => kst_all); (case N => k_asm); (case Fa => exact True.intro); (case hp => (dsimp only; exact ⟨by lia, by lia, rfl⟩)))
    rintro ⟨found, tb⟩ u h tk - ⟨b1, b2, b3⟩ F1 N1
    dsimp only [kstB] at b1 b2 b3 F1 N1 ⊢
    (revert found tb u h tk; refine seal5 (default, default, default, default, default) ?_; generalize sl5_0 _ _ = found, sl5_1 _ _ = tb, sl5_2 _ _ = u, sl5_3 _ _ = h, sl5_4 _ _ = tk; intro b1 b2 b3 F1 N1)
    all_goals (try ((with_reducible rename Rim => m9); revert m9; intro _))
  k_with "wend" =>
    refine ksw_end (_, _) (by assumption) (by assumption) (by kst_in) (by kst_facts) (by kst_all) (by ksw_same) ?_ ?_
    all_goals dsimp only
    · exact ⟨by lia, by lia, (prv_n (by lia) (by assumption)).symm.trans b3⟩
    · lia
  ((try ((with_reducible rename Rim => m9); revert m9; intro _)); k_steps)
  all_goals (try dsimp only)
  all_goals refine Done.mk (by assumption) (int_ex ?_)
  all_goals rw [← b3]
  all_goals first
    | (rw [prv_y (by lia) (by assumption)]; lia)
    | (rw [show found.toNat = 0 by lia]; show _ = (0 : Int); lia)
def sure (D : Db) (l r : Int) : Bool :=
  match pairS (D.g l) (D.g r) false with
  | some true => if [Str.ofString "Extend", Str.ofString "ZWJ"].any (fun x => x == D.g r) = true ∧ D.e l = true then false
      else !([Str.ofString "Extend", Str.ofString "Linker"].any (fun x => x == D.i r)) || (D.i l == Str.ofString "None")
  | some false => false
  | none => if (D.g l == Str.ofString "Regional_Indicator") = true ∨ [Str.ofString "Extend", Str.ofString "ZWJ"].any (fun x => x == D.g l) = true ∨ D.e l = true then false else D.i l == Str.ofString "None"

theorem c_sure : ∀ (w : World) (d : Addr) (D : Db) (l : Int) (r : Int) (t1 : Tok) (t2 : Tok), (8704 ≤ l) → (l < 8720) → (8704 ≤ r) → (r < 8720) → Ctr w 124 8 [.int l t1, .int r t2, .ref d] (DataAt w d D) (fun v => v = .bool (sure D l r)) := by
  intro w d D l r t1 t2 hl0 hl1 hr0 hr1
  k_dflt (refine' Ctr.bodyX DataAt.mono (binds := [(Str.ofString "left", .int l t1), (Str.ofString "right", .int r t2), (Str.ofString "data", .ref d)]) ?ho ?hcd ?hbind ?hloc ?h ?hcell ?hd1 ?hco ?hgen ?hk; (case ho => k_is); (case hcd => k_is); (case hbind => first | exact fun _ _ => BindsTo.of_eq rfl | exact fun _ X' => binds_K X' rfl (by k_is) rfl rfl rfl); (case hloc => exact locs rfl); (case hcell => decide); (case hd1 => decide); (case hco => exact rfl); (case hgen => exact rfl); (case hk => exact rfl))
  intro kx
  revert hl0 hl1 hr0 hr1
  revert w d D l r t1 t2 kx
  refine seal8 (dW, default, ⟨fun _ => default, fun _ => default, fun _ => false⟩, default, default, default, default, dCx) ?_
  generalize sl8_0 _ _ = w, sl8_1 _ _ = d, sl8_2 _ _ = D, sl8_3 _ _ = l, sl8_4 _ _ = r, sl8_5 _ _ = t1, sl8_6 _ _ = t2, sl8_7 _ _ = kx
  intro hl0 hl1 hr0 hr1
  w_top off
  intro B F N X T hdp hun hP
  have _ : Dm := Dm.mk
  have _ : Rim := Rim.mk
  k_with_none
  k_with "@compareOp In str ref" => ((k_here; (with_reducible show wpAny _ _ (compareOp CmpOp.In (Value.str _ _) (Value.ref _)) _ _ _); k_dflt (refine' in_tuple_strs (topTup (by k_asm) (by k_asm) ?e_q9) ?k2_q9 ?_; (case e_q9 => k_is); (case k2_q9 => (repeat constructor); done))))
  k_with "@getMethod ref" => ((k_here; (with_reducible show wpAny _ _ (getMethod (Value.ref _) (Str.ofString "get") _) _ _ _); k_dflt (refine getM_data (by k_asm) (by k_asm) (by with_reducible assumption) ?_)))
  k_with "@call ref" => ((k_here; (with_reducible show wpAny _ _ (call (Value.ref 276) _) _ _ _); k_dflt (refine' Ctr.useT (Ctr.imp (c_get_incb _ _ _ _ _ _ (by first | assumption | lia) (by first | assumption | lia)) (fun _ h => isDv_s h)) ?k1_q9 ?k2_q9 ?k3_q9 ?k4_q9 ?k5_q9 ?k6_q9 ?k7_q9 ?k8_q9 ?k9_q9 ?_; (case k1_q9 => k_asm); (case k2_q9 => k_asm); (case k3_q9 => k_asm); (case k4_q9 => k_asm); (case k5_q9 => k_asm); (case k6_q9 => first | exact rfl | assumption); (case k7_q9 => exact DataAt.mono _ _ (Fr.keep (by k_asm)) (by assumption)); (case k8_q9 => ktr_room); (case k9_q9 => ktr_units)); intro t9 h9 tk9 st9 F9 N9; (try k_sweep); (try k_fold)); (all_goals (try ((with_reducible show wpAny _ _ _ _ _ _); (try revert t9); (try revert h9); (try revert tk9); (try revert st9); (try revert F9); (try revert N9); intros))))
  k_with "@call ref" => ((k_here; (with_reducible show wpAny _ _ (call (Value.ref 276) _) _ _ _); k_dflt (refine' Ctr.useV (Ctr.imp (c_get_ep _ _ _ _ _ _ (by first | assumption | lia) (by first | assumption | lia)) (fun _ h => isDv_b h)) ?k1_q9 ?k2_q9 ?k3_q9 ?k4_q9 ?k5_q9 ?k6_q9 ?k7_q9 ?k8_q9 ?k9_q9 ?_; (case k1_q9 => k_asm); (case k2_q9 => k_asm); (case k3_q9 => k_asm); (case k4_q9 => k_asm); (case k5_q9 => k_asm); (case k6_q9 => first | exact rfl | assumption); (case k7_q9 => exact DataAt.mono _ _ (Fr.keep (by k_asm)) (by assumption)); (case k8_q9 => ktr_room); (case k9_q9 => ktr_units)); intro h9 tk9 st9 F9 N9; (try k_sweep); (try k_fold)); (all_goals (try ((with_reducible show wpAny _ _ _ _ _ _); (try revert h9); (try revert tk9); (try revert st9); (try revert F9); (try revert N9); intros))))
  k_with "@call ref" => ((k_here; (with_reducible show wpAny _ _ (call (Value.ref 45) _) _ _ _); k_dflt (refine' Ctr.useT (c_kind _ _ _ _ _ (by first | assumption | lia) (by first | assumption | lia)) ?k1_q9 ?k2_q9 ?k3_q9 ?k4_q9 ?k5_q9 ?k6_q9 ?k7_q9 ?k8_q9 ?k9_q9 ?_; (case k1_q9 => k_asm); (case k2_q9 => k_asm); (case k3_q9 => k_asm); (case k4_q9 => k_asm); (case k5_q9 => k_asm); (case k6_q9 => first | exact rfl | assumption); (case k7_q9 => exact DataAt.mono _ _ (Fr.keep (by k_asm)) (by assumption)); (case k8_q9 => ktr_room); (case k9_q9 => ktr_units)); intro t9 h9 tk9 st9 F9 N9; (try k_sweep); (try k_fold)); (all_goals (try ((with_reducible show wpAny _ _ _ _ _ _); (try revert t9); (try revert h9); (try revert tk9); (try revert st9); (try revert F9); (try revert N9); intros))))
  k_with "@compareOp NotIn str ref" => ((k_here; (with_reducible show wpAny _ _ (compareOp CmpOp.NotIn (Value.str _ _) (Value.ref _)) _ _ _); k_dflt (refine' notin_tuple_strs (topTup (by k_asm) (by k_asm) ?e_q9) ?k2_q9 ?_; (case e_q9 => k_is); (case k2_q9 => (repeat constructor); done))))
  k_with "@call ref" => ((k_here; (with_reducible show wpAny _ _ (call (Value.ref 59) _) _ _ _); k_dflt (refine' Ctr.useV (c_pair _ _ _ _ _ _) ?k1_q9 ?k2_q9 ?k3_q9 ?k4_q9 ?k5_q9 ?k6_q9 ?k7_q9 ?k8_q9 ?k9_q9 ?_; (case k1_q9 => k_asm); (case k2_q9 => k_asm); (case k3_q9 => k_asm); (case k4_q9 => k_asm); (case k5_q9 => k_asm); (case k6_q9 => first | exact rfl | assumption); (case k7_q9 => trivial); (case k8_q9 => ktr_room); (case k9_q9 => ktr_units)); intro h9 tk9 st9 F9 N9; (rcases hq9 : pairS _ _ _ with _ | b9 <;> (simp only [optV])); (try k_sweep); (try k_fold)); (all_goals (try ((with_reducible show wpAny _ _ _ _ _ _); (try revert h9); (try revert tk9); (try revert st9); (try revert F9); (try revert N9); intros))))
  k_with "k0" => (k_here; (with_reducible show wpAny _ _ (callWith _ (Value.ref _) _ (backTo _ (starEach [] _)) []) _ _ _); k_dflt (refine' callWith_K0 ?k1_q9 ?k2_q9 ?_; (case k1_q9 => first | with_reducible assumption | exact Frag.In.keeps (by with_reducible assumption) (Fr.keep (by with_reducible assumption))); (case k2_q9 => k_is); k_whole))
  k_with "fold" => (k_fold; (with_reducible rename Dm => d9); revert d9; revert ek; revert qk; intro qk ek _)
  k_with "seal0" => k_extra "seal"
  k_with "seal" =>
    (with_reducible show wpAny _ _ (execs (_ :: _) _) _ _ _)
    (try k_extra "preseal")
    (fail_if_success (have y9 := ‹_›; (with_reducible have y8 : Rim := y9)))
    (repeat ((fail_if_success (have y9 := ‹_›; (with_reducible have y8 : Rim := y9))); first | ((fail_if_success (have y9 := ‹_›; have y8 : (_ : Prop) := y9)); clear (‹_›)) | revert (‹_›)))
    (repeat (first
      | ((with_reducible refine seal2 dHT ?_); (generalize sl2_0 _ _ = z8, sl2_1 _ _ = z7))
      | ((with_reducible refine seal1 dHp ?_); (generalize eps _ _ = z8))
      | ((with_reducible refine seal1 (0 : Nat) ?_); (generalize eps _ _ = z8))
      | ((with_reducible refine seal1 default ?_); (generalize eps _ _ = z8))
      | (with_reducible intro _)))
    ((with_reducible rename Rim => m9); revert m9; intro _)

  ((try ((with_reducible rename Rim => m9); revert m9; intro _)); k_steps)
  all_goals (try dsimp only)
  all_goals (refine Done.mk (by assumption) (congrArg Value.bool ?_))
  all_goals (simp [sure, *])
def safe (D : Db) (tx : List Int) : Nat → Int
  | 0 => 0
  | k + 1 => if k + 1 < tx.length then (if sure D (tx.getD k 0) (tx.getD (k + 1) 0) = true then (k : Int) + 1 else safe D tx k) else (k : Int) + 1
theorem safe_y {D : Db} {tx : List Int} {f : Int} (h : 0 < f) (hl : f < tx.length) (hb : sure D (tx.getD (f - 1).toNat 0) (tx.getD f.toNat 0) = true) : safe D tx f.toNat = f := by
  obtain ⟨k, rfl⟩ : ∃ k : Nat, f = (k : Int) + 1 := ⟨(f - 1).toNat, by lia⟩
  rw [show ((k : Int) + 1).toNat = k + 1 by lia, show ((k : Int) + 1 - 1).toNat = k by lia] at hb
  rw [show ((k : Int) + 1).toNat = k + 1 by lia]
  unfold safe; rw [if_pos (by lia), if_pos hb]
theorem safe_n {D : Db} {tx : List Int} {f : Int} (h : 0 < f) (hl : f < tx.length) (hb : sure D (tx.getD (f - 1).toNat 0) (tx.getD f.toNat 0) = false) : safe D tx f.toNat = safe D tx (f - 1).toNat := by
  obtain ⟨k, rfl⟩ : ∃ k : Nat, f = (k : Int) + 1 := ⟨(f - 1).toNat, by lia⟩
  rw [show ((k : Int) + 1).toNat = k + 1 by lia, show ((k : Int) + 1 - 1).toNat = k by lia] at hb
  rw [show ((k : Int) + 1).toNat = k + 1 by lia, show ((k : Int) + 1 - 1).toNat = k by lia]
  show (if _ then _ else _) = _
  rw [if_pos (by lia), if_neg (ne_true_of_eq_false hb)]
theorem safe_e {D : Db} {tx : List Int} {f : Int} (h : 0 ≤ f) (hl : ¬ (0 < f ∧ f < tx.length)) : safe D tx f.toNat = f := by
  obtain ⟨k, rfl⟩ := Int.eq_ofNat_of_zero_le h
  cases k with
  | zero => rfl
  | succ k =>
    rw [show (((k + 1 : Nat) : Int)).toNat = k + 1 by lia]
    unfold safe; rw [if_neg (by lia)]; rfl
theorem c_safe : ∀ (w : World) (d : Addr) (D : Db) (ta : Addr) (vs : List Value) (tx : List Int) (i : Int) (t : Tok), (Txt vs tx) → (0 ≤ i) → (i ≤ tx.length) → Ctr w 131 10 [.ref ta, .int i t, .ref d] (TextAt w d D ta vs) (fun v => ∃ t, v = .int (safe D tx i.toNat) t) := by
  intro w d D ta vs tx i t hT h0 h1
  k_dflt (refine' Ctr.bodyX TextAt.mono (binds := [(Str.ofString "text", .ref ta), (Str.ofString "at", .int i t), (Str.ofString "data", .ref d)]) ?ho ?hcd ?hbind ?hloc ?h ?hcell ?hd1 ?hco ?hgen ?hk; (case ho => k_is); (case hcd => k_is); (case hbind => first | exact fun _ _ => BindsTo.of_eq rfl | exact fun _ X' => binds_K X' rfl (by k_is) rfl rfl rfl); (case hloc => exact locs rfl); (case hcell => decide); (case hd1 => decide); (case hco => exact rfl); (case hgen => exact rfl); (case hk => exact rfl))
  intro kx
  revert hT h0 h1
  revert w d D ta vs tx i t kx
  refine seal8 (dW, default, ⟨fun _ => default, fun _ => default, fun _ => false⟩, default, default, default, default, default) ?_
  generalize sl8_0 _ _ = w, sl8_1 _ _ = d, sl8_2 _ _ = D, sl8_3 _ _ = ta, sl8_4 _ _ = vs, sl8_5 _ _ = tx, sl8_6 _ _ = i, sl8_7 _ _ = t
  refine seal1 (dCx) ?_
  generalize eps _ _ = kx
  intro hT h0 h1
  intro B F N X T hdp hun hP
  have _ : Dm := Dm.mk
  have _ : Rim := Rim.mk
  k_with_none
  k_with "@KswEnd" => ((k_here; k_extra "wend"))
  k_with "@exec While BoolOp cons nil" => ((k_here; k_extra "while"))
  k_with "@call ref" => ((k_here; (with_reducible show wpAny _ _ (call (Value.ref 124) _) _ _ _); k_dflt (refine' Ctr.useV (c_sure _ _ _ _ _ _ _ (Codes.lo (by assumption) (by lia)) (Codes.hi (by assumption) (by lia)) (Codes.lo (by assumption) (by lia)) (Codes.hi (by assumption) (by lia))) ?k1_q9 ?k2_q9 ?k3_q9 ?k4_q9 ?k5_q9 ?k6_q9 ?k7_q9 ?k8_q9 ?k9_q9 ?_; (case k1_q9 => k_asm); (case k2_q9 => k_asm); (case k3_q9 => k_asm); (case k4_q9 => k_asm); (case k5_q9 => k_asm); (case k6_q9 => first | exact rfl | assumption); (case k7_q9 => exact DataAt.mono _ _ (Fr.keep (by k_asm)) (by assumption)); (case k8_q9 => ktr_room); (case k9_q9 => ktr_units)); intro h9 tk9 st9 F9 N9; (try k_sweep); (try k_fold)); (all_goals (try ((with_reducible show wpAny _ _ _ _ _ _); (try revert h9); (try revert tk9); (try revert st9); (try revert F9); (try revert N9); intros))))
  k_with "k0" => (k_here; (with_reducible show wpAny _ _ (callWith _ (Value.ref _) _ (backTo _ (starEach [] _)) []) _ _ _); k_dflt (refine' callWith_K0 ?k1_q9 ?k2_q9 ?_; (case k1_q9 => first | with_reducible assumption | exact Frag.In.keeps (by with_reducible assumption) (Fr.keep (by with_reducible assumption))); (case k2_q9 => k_is); k_whole))
  k_with "fold" => (k_fold; (with_reducible rename Dm => d9); revert d9; revert ek; revert qk; intro qk ek _)
  k_with "seal0" => k_extra "seal"
  k_with "seal" =>
    (with_reducible show wpAny _ _ (execs (_ :: _) _) _ _ _)
    (try k_extra "preseal")
    (fail_if_success (have y9 := ‹_›; (with_reducible have y8 : Rim := y9)))
    (repeat ((fail_if_success (have y9 := ‹_›; (with_reducible have y8 : Rim := y9))); first | ((fail_if_success (have y9 := ‹_›; have y8 : (_ : Prop) := y9)); clear (‹_›)) | revert (‹_›)))
    (repeat (first
      | ((with_reducible refine seal2 dHT ?_); (generalize sl2_0 _ _ = z8, sl2_1 _ _ = z7))
      | ((with_reducible refine seal1 dHp ?_); (generalize eps _ _ = z8))
      | ((with_reducible refine seal1 (0 : Nat) ?_); (generalize eps _ _ = z8))
      | ((with_reducible refine seal1 default ?_); (generalize eps _ _ = z8))
      | (with_reducible intro _)))
    ((with_reducible rename Rim => m9); revert m9; intro _)

  obtain ⟨hi, hc, hl⟩ := id hT
  have hPT := hP
  obtain ⟨hD, hL⟩ := hP
  have hlen := hi.length
  k_with "while" =>
    k_dflt (refine' ksw_while (σ := Int × Tok) (fun _ => []) (fun c => [(Str.ofString "at", .int c.1 c.2)]) (fun _ => True) [] (fun k => 0 ≤ k.1 ∧ k.1 ≤ (tx.length : Int) ∧ safe D tx k.1.toNat = safe D tx i.toNat) (fun k => k.1.toNat) (_, _) ?F ?N ?Fa ?hk ?hp ?turn; (case F => k_asm); (case hk => kst_all); (case N => k_asm); (case Fa => exact True.intro); (case hp => (dsimp only; exact ⟨by lia, by lia, rfl⟩)))
    rintro ⟨at', tb⟩ u h tk - ⟨b1, b2, b3⟩ F1 N1
    dsimp only [kstB] at b1 b2 b3 F1 N1 ⊢
    (revert at' tb u h tk; refine seal5 (default, default, default, default, default) ?_; generalize sl5_0 _ _ = at', sl5_1 _ _ = tb, sl5_2 _ _ = u, sl5_3 _ _ = h, sl5_4 _ _ = tk; intro b1 b2 b3 F1 N1)
    all_goals (try ((with_reducible rename Rim => m9); revert m9; intro _))
  k_with "wend" =>
    refine ksw_end (_, _) (by assumption) (by assumption) (by kst_in) (by kst_facts) (by kst_all) (by ksw_same) ?_ ?_
    all_goals dsimp only
    · exact ⟨by lia, by lia, (safe_n (by lia) (by lia) (by assumption)).symm.trans b3⟩
    · lia
  ((try ((with_reducible rename Rim => m9); revert m9; intro _)); k_steps)
  all_goals (try dsimp only)
  all_goals refine Done.mk (by assumption) (int_ex ?_)
  all_goals rw [← b3]
  all_goals first
    | (rw [safe_y (by lia) (by lia) (by assumption)]; done)
    | (rw [safe_e (by lia) (by lia)]; done)
/-- a def that changes objects of the call's own: mu is what they are ahead, mu' behind -/
def CtrM (w : World) (f : Addr) (d : Nat) (args : List Value) (mu : List (Addr × Obj)) (P : Heap → Prop) (R : Value → List (Addr × Obj) → Prop) : Prop :=
  ∀ (mean : ExcName → Option Value) (mg mb : Str → Option Value) (dp un : Nat) (gd : Option (List Code)) (cn : Str) (cs : Scope) (a : Addr) (ccd : Value) (cl : List (Str × Addr)) (outer : List Env) (A₀ : Around) (base h₀ : Heap) (L : Addr) (m : Str → Option Value) (s : Shared) (Rr : Result → Shared → Prop),
    Below A₀ base outer h₀ → Fr h₀ L s.heap m → (hd.heap_1 w.params).In h₀ → News h₀ L s.heap mu → Top view lv mean mg mb h₀ → cs.kind = .function → dp + d < recursionLimit → un + 8 * d < cLine → P h₀ →
    (∀ r h' tk' mu', (∀ b o, s.heap.get? b = some o → b ∉ mu.map (·.1) → h'.get? b = some o) → Fr h₀ L h' m → News h₀ L h' mu' → (∀ p ∈ mu', p.1 ∈ mu.map (·.1) ∨ s.heap.get? p.1 = none) → R r mu' → Rr (.ok (.ret r)) { s with heap := h', toks := tk' }) →
    codeAny (model PySem.Challenge.rw_pq1305_01.row.prog w) (ktrTop dp un gd cn cs L a ccd cl outer) (.call (.ref f) ⟨args, []⟩) Rr s

def DoneM (g : Heap) (L : Addr) (s : Shared) (R : Value → List (Addr × Obj) → Prop) (fl : Flow) (s' : Shared) : Prop :=
  ∃ h' tk' m' mu', s' = { s with heap := h', toks := tk' } ∧ Fr g L h' m' ∧ News g L h' mu' ∧ R (match fl with | .ret v => v | _ => .none) mu'

theorem DoneM.mk {g : Heap} {L : Addr} {s : Shared} {R : Value → List (Addr × Obj) → Prop} {fl : Flow} {h' : Heap} {tk' : Nat} {m' : Str → Option Value} {mu mu' : List (Addr × Obj)} (F : Fr g L h' m') (N : News g L h' mu) (hs : ∀ p ∈ mu', p ∈ mu) (r : R (match fl with | .ret v => v | _ => .none) mu') : DoneM g L s R fl { s with heap := h', toks := tk' } :=
  ⟨h', tk', m', mu', rfl, F, fun p hp => N p (hs p hp), r⟩

theorem CtrM.body {w : World} {f : Addr} {d : Nat} {args : List Value} {mu : List (Addr × Obj)} {P : Heap → Prop} {R : Value → List (Addr × Obj) → Prop} (hP : Mono P)
    {name qual : Str} {params : Arguments} {body : List Stmt} {scope : Scope} {dV kV doc pm cdv ct oc : Value} {an od : Option Addr} {osl : Array (Option Value)} {binds : List (Str × Value)}
    (ho : (hd.heap_1 w.params).lookup f = some ⟨oc, od, .func (fnOf name qual params body scope dV kV doc pm an cdv ct), osl⟩) (hcd : codeIn (hd.heap_1 w.params) cdv qual = true)
    (hbind : ∀ s : Shared, (hd.heap_1 w.params).In s.heap → BindsTo s (fnOf name qual params body scope dV kV doc pm an cdv ct) ⟨args, []⟩ binds) (hloc : ∀ y ∈ binds, scope.names.lookup y.1 = some .local)
    (h : ∀ (mean : ExcName → Option Value) (mg mb : Str → Option Value) (dp un : Nat) (gd : Option (List Code)) (cn : Str) (cs : Scope) (L a : Addr) (ccd : Value) (cl : List (Str × Addr)) (outer : List Env) (A₀ : Around) (base g : Heap) (L' : Addr) (s : Shared),
      Below A₀ base (envX cn cs L a ccd cl :: outer) g → Fr g L' s.heap (fun y => binds.reverse.lookup y) → News g L' s.heap mu → (hd.heap_1 w.params).In g → Top view lv mean mg mb g → dp + d < recursionLimit → un + 8 * d < cLine → P g →
      wpAny (model PySem.Challenge.rw_pq1305_01.row.prog w) ((ktrTop dp un gd cn cs L a ccd cl outer).deeper (envOf qual scope L' f cdv)) (execs body (envOf qual scope L' f cdv)) (DoneM g L' s R) (fun _ _ => False) s)
    (hcell : ∀ x ∈ scope.names, x.2 ≠ .cell) (hd1 : 0 < d) (hco : scope.isCoroutine = false) (hgen : scope.isGenerator = false) (hk : scope.kind = .function) : CtrM w f d args mu P R := by
  intro mean mg mb dp un gd cn cs a ccd cl outer A₀ base h₀ L m s Rr B F X N T hcs hdp hun hPs ret
  refine code_defG (env := envX cn cs L a ccd cl) (outer := outer) B F X N T rfl rfl hcs ho hcd (by show dp < recursionLimit; lia) (hbind s (X.keeps F.keep)) hloc ?_ hco hgen hk hcell
  intro g L' h₁ FG F' N' B' X' T' st
  have st0 : h₀.StaysIn g := FG.keep
  refine wpAny_mono (h mean mg mb dp un gd cn cs L a ccd cl outer _ base g L' _ B' F' N' X' T' hdp hun (hP _ _ st0 hPs)) ?_ (fun _ _ x => x.elim)
  rintro fl s' ⟨h', tk', m', mu', rfl, F₂, N₂, r⟩
  refine leaveK_ (m' := m') (news' := mu') F₂ N₂ ?_
  intro kF kN
  refine ret _ h' tk' mu' (fun b o e hb => F₂.keep b o (st b o e hb)) kF kN (fun p hp => ?_) r
  by_cases hm : p.1 ∈ mu.map (·.1)
  · exact .inl hm
  · refine .inr ?_
    cases q : s.heap.get? p.1 with
    | none => rfl
    | some o =>
      have := st _ _ q hm
      rw [(N₂ p hp).2.2] at this
      cases this

theorem CtrM.bodyX {w : World} {f : Addr} {d : Nat} {args : List Value} {mu : List (Addr × Obj)} {P : Heap → Prop} {R : Value → List (Addr × Obj) → Prop} (hP : Mono P)
    {name qual : Str} {params : Arguments} {body : List Stmt} {scope : Scope} {dV kV doc pm cdv ct oc : Value} {an od : Option Addr} {osl : Array (Option Value)} {binds : List (Str × Value)}
    (ho : (hd.heap_1 w.params).lookup f = some ⟨oc, od, .func (fnOf name qual params body scope dV kV doc pm an cdv ct), osl⟩) (hcd : codeIn (hd.heap_1 w.params) cdv qual = true)
    (hbind : ∀ s : Shared, (hd.heap_1 w.params).In s.heap → BindsTo s (fnOf name qual params body scope dV kV doc pm an cdv ct) ⟨args, []⟩ binds) (hloc : ∀ y ∈ binds, scope.names.lookup y.1 = some .local)
    (h : ∀ q : Cx, Below q.A₀ q.base (envX q.cn q.cs q.L q.a q.ccd q.cl :: q.outer) q.g → Fr q.g q.L' q.s.heap (fun y => binds.reverse.lookup y) → News q.g q.L' q.s.heap mu → (hd.heap_1 w.params).In q.g → Top view lv q.mean q.mg q.mb q.g → q.dp + d < recursionLimit → q.un + 8 * d < cLine → P q.g →
      wpAny (model PySem.Challenge.rw_pq1305_01.row.prog w) ((ktrTop q.dp q.un q.gd q.cn q.cs q.L q.a q.ccd q.cl q.outer).deeper (envOf qual scope q.L' f cdv)) (execs body (envOf qual scope q.L' f cdv)) (DoneM q.g q.L' q.s R) (fun _ _ => False) q.s)
    (hcell : ∀ x ∈ scope.names, x.2 ≠ .cell) (hd1 : 0 < d) (hco : scope.isCoroutine = false) (hgen : scope.isGenerator = false) (hk : scope.kind = .function) : CtrM w f d args mu P R :=
  CtrM.body hP ho hcd hbind hloc (fun mean mg mb dp un gd cn cs L a ccd cl outer A₀ base g L' s => h ⟨mean, mg, mb, dp, un, gd, cn, cs, L, a, ccd, cl, outer, A₀, base, g, L', s⟩) hcell hd1 hco hgen hk

theorem CtrM.use {w : World} {f : Addr} {d : Nat} {args : List Value} {mu : List (Addr × Obj)} {P : Heap → Prop} {R : Value → List (Addr × Obj) → Prop} (C : CtrM w f d args mu P R)
    {mean : ExcName → Option Value} {mg mb : Str → Option Value} {dp un : Nat} {gd : Option (List Code)} {cn : Str} {cs : Scope} {a : Addr} {ccd : Value} {cl : List (Str × Addr)} {outer : List Env} {A₀ : Around} {base h₀ : Heap} {L : Addr} {m : Str → Option Value} {s : Shared} {Q E : Value → Shared → Prop} {news : List (Addr × Obj)}
    (B : Below A₀ base outer h₀) (F : Fr h₀ L s.heap m) (X : (hd.heap_1 w.params).In h₀) (N : News h₀ L s.heap news) (hmu : ∀ p ∈ mu, p ∈ news) (T : Top view lv mean mg mb h₀) (hk : cs.kind = .function) (hP : P h₀) (hd : dp + d < recursionLimit) (hu : un + 8 * d < cLine)
    (ret : ∀ r h' tk' mu', Fr h₀ L h' m → News h₀ L h' mu' → (∀ p ∈ news, p.1 ∉ mu.map (·.1) → h'.get? p.1 = some p.2 ∧ p.1 ≠ L ∧ h₀.get? p.1 = none) → R r mu' → Q r { s with heap := h', toks := tk' }) :
    wpAny (model PySem.Challenge.rw_pq1305_01.row.prog w) (ktrTop dp un gd cn cs L a ccd cl outer) (call (.ref f) args) Q E s :=
  wpAny_call <| C mean mg mb dp un gd cn cs a ccd cl outer A₀ base h₀ L m s _ B F X (fun p hp => N p (hmu p hp)) T hk hd hu hP fun r h' tk' mu' st F' N' _ r' => ret r h' tk' mu' F' N' (fun p hp hn => ⟨st _ _ (N p hp).1 hn, (N p hp).2⟩) r'

/-- the same with the ledger as three parts: ahead, what is turned, behind; and the addresses all differ -/
theorem CtrM.useN {w : World} {f : Addr} {d : Nat} {args : List Value} {mu : List (Addr × Obj)} {P : Heap → Prop} {R : Value → List (Addr × Obj) → Prop} (C : CtrM w f d args mu P R)
    {mean : ExcName → Option Value} {mg mb : Str → Option Value} {dp un : Nat} {gd : Option (List Code)} {cn : Str} {cs : Scope} {a : Addr} {ccd : Value} {cl : List (Str × Addr)} {outer : List Env} {A₀ : Around} {base h₀ : Heap} {L : Addr} {m : Str → Option Value} {s : Shared} {Q E : Value → Shared → Prop} (pre post : List (Addr × Obj))
    (B : Below A₀ base outer h₀) (F : Fr h₀ L s.heap m) (X : (hd.heap_1 w.params).In h₀) (N : News h₀ L s.heap (pre ++ (mu ++ post))) (nd : ((pre ++ (mu ++ post)).map (·.1)).Nodup) (T : Top view lv mean mg mb h₀) (hk : cs.kind = .function) (hP : P h₀) (hd : dp + d < recursionLimit) (hu : un + 8 * d < cLine) (hR : ∀ r mu', R r mu' → (mu'.map (·.1)).Nodup)
    (ret : ∀ r h' tk' mu', Fr h₀ L h' m → News h₀ L h' (pre ++ (mu' ++ post)) → ((pre ++ (mu' ++ post)).map (·.1)).Nodup → R r mu' → Q r { s with heap := h', toks := tk' }) :
    wpAny (model PySem.Challenge.rw_pq1305_01.row.prog w) (ktrTop dp un gd cn cs L a ccd cl outer) (call (.ref f) args) Q E s := by
  have mem : ∀ p ∈ mu, p ∈ pre ++ (mu ++ post) := fun p hp => List.mem_append_right _ (List.mem_append_left _ hp)
  refine wpAny_call <| C mean mg mb dp un gd cn cs a ccd cl outer A₀ base h₀ L m s _ B F X (fun p hp => N p (mem p hp)) T hk hd hu hP fun r h' tk' mu' st F' N' fr r' => ?_
  simp only [List.map_append] at nd
  obtain ⟨n1, n2, n3⟩ := List.nodup_append.mp nd
  obtain ⟨n4, n5, n6⟩ := List.nodup_append.mp n2
  have fresh : ∀ p ∈ mu', ∀ q ∈ pre ++ post, p.1 ≠ q.1 := fun p hp q hq e => by
    have hget : s.heap.get? q.1 = some q.2 := (N q (by rcases List.mem_append.mp hq with h | h <;> simp [h])).1
    rcases fr p hp with h | h
    · rcases List.mem_append.mp hq with hq | hq
      · exact n3 q.1 (List.mem_map_of_mem hq) p.1 (List.mem_append_left _ h) e.symm
      · exact n6 p.1 h q.1 (List.mem_map_of_mem hq) e
    · rw [e, hget] at h; cases h
  have off : ∀ p ∈ pre ++ post, p.1 ∉ mu.map (·.1) := fun p hp h => by
    rcases List.mem_append.mp hp with hp | hp
    · exact n3 p.1 (List.mem_map_of_mem hp) p.1 (List.mem_append_left _ h) rfl
    · exact n6 p.1 h p.1 (List.mem_map_of_mem hp) rfl
  have keep : ∀ p ∈ pre ++ post, h'.get? p.1 = some p.2 ∧ p.1 ≠ L ∧ h₀.get? p.1 = none := fun p hp => by
    have z := N p (by rcases List.mem_append.mp hp with h | h <;> simp [h])
    exact ⟨st _ _ z.1 (off p hp), z.2⟩
  refine ret r h' tk' mu' F' (fun p hp => ?_) ?_ r'
  · rcases List.mem_append.mp hp with hp | hp
    · exact keep p (List.mem_append_left _ hp)
    · rcases List.mem_append.mp hp with hp | hp
      · exact N' p hp
      · exact keep p (List.mem_append_right _ hp)
  · simp only [List.map_append]
    refine List.nodup_append.mpr ⟨n1, List.nodup_append.mpr ⟨hR r mu' r', n5, fun x hx y hy e => ?_⟩, fun x hx y hy e => ?_⟩
    · obtain ⟨p, hp, rfl⟩ := List.mem_map.mp hx
      obtain ⟨q, hq, rfl⟩ := List.mem_map.mp hy
      exact fresh p hp q (List.mem_append_right _ hq) e
    · rcases List.mem_append.mp hy with hy | hy
      · obtain ⟨p, hp, rfl⟩ := List.mem_map.mp hx
        obtain ⟨q, hq, rfl⟩ := List.mem_map.mp hy
        exact fresh q hq p (List.mem_append_left _ hp) e.symm
      · exact n3 x hx y (List.mem_append_right _ hy) e

def Joined (v : Value) (s : Shared) (r : Value) (s' : Shared) : Prop := r = v ∧ ∃ tk, s' = { s with toks := tk }
theorem eval_join {M : Model} {A : Around} {E : Value → Shared → Prop} {s : Shared} {t : Sem Value} {Q : Value → Shared → Prop} (v : Value) (h1 : wpAny M A t (Joined v s) E s) (h2 : ∀ tk, Q v { s with toks := tk }) : wpAny M A t Q E s :=
  wpAny_mono h1 (fun r s' h => by obtain ⟨rfl, tk, rfl⟩ := h; exact h2 tk) fun _ _ x => x
theorem joined_b {b c : Bool} {s : Shared} {tk : Nat} (h : b = c) : Joined (.bool c) s (.bool b) { s with toks := tk } := ⟨by rw [h], tk, rfl⟩
local macro_rules | `(tactic| walk_at "eval BoolOp") => `(tactic| k_extra "@eval BoolOp")
local macro_rules | `(tactic| k_room) => `(tactic| ktr_room)
def held (k : Str) (pic : Bool) (wd : Str) (leg odd joint : Bool) (cj : Int) : Bool :=
  if (wd == Str.ofString "Consonant") = true ∧ cj = 2 ∧ leg = false then true
  else if pic = true ∧ joint = true then true
  else (k == Str.ofString "Regional_Indicator") && odd
theorem and_ff {a b : Bool} (h : a = false) : a = (a && b) := by subst h; rfl
theorem and_tt {a b : Bool} (h : a = true) : b = (a && b) := by subst h; rfl

theorem c_held : ∀ (w : World) (x : Addr) (dx : Addr) (d : Addr) (q : Nat → Int) (u : Nat → Tok) (sl : Array (Option Value)) (k0 : Value) (leg : Bool) (odd : Bool) (pic0 : Bool) (joint : Bool) (cj : Int) (tc : Tok) (k : Str) (t1 : Tok) (pic : Bool) (wd : Str) (t2 : Tok), Ctr w 160 1 [.ref x, .str k t1, .bool pic, .str wd t2] (fun h => h.get? x = some ⟨.ref 170, some dx, .plain, sl⟩ ∧ h.get? dx = some (dictOf [⟨q 0, .str (Str.ofString "data_asked") (u 0), .ref d⟩, ⟨q 1, .str (Str.ofString "is_legacy") (u 1), .bool leg⟩, ⟨q 2, .str (Str.ofString "kind") (u 2), k0⟩, ⟨q 3, .str (Str.ofString "is_odd") (u 3), .bool (odd)⟩, ⟨q 4, .str (Str.ofString "has_picture") (u 4), .bool (pic0)⟩, ⟨q 5, .str (Str.ofString "has_joint") (u 5), .bool (joint)⟩, ⟨q 6, .str (Str.ofString "conjunct") (u 6), .int (cj) tc⟩] 7)) (fun v => v = .bool (held k pic wd leg odd joint cj)) := by
  intro w x dx d q u sl k0 leg odd pic0 joint cj tc k t1 pic wd t2
  k_dflt (refine' Ctr.bodyX (fun _ _ k h => ⟨k _ _ h.1, k _ _ h.2⟩) (binds := [(Str.ofString "self", .ref x), (Str.ofString "kind", .str k t1), (Str.ofString "is_picture", .bool pic), (Str.ofString "word", .str wd t2)]) ?ho ?hcd ?hbind ?hloc ?h ?hcell ?hd1 ?hco ?hgen ?hk; (case ho => k_is); (case hcd => k_is); (case hbind => first | exact fun _ _ => BindsTo.of_eq rfl | exact fun _ X' => binds_K X' rfl (by k_is) rfl rfl rfl); (case hloc => exact locs rfl); (case hcell => decide); (case hd1 => decide); (case hco => exact rfl); (case hgen => exact rfl); (case hk => exact rfl))
  intro kx
  revert w x dx d q u sl k0 leg odd pic0 joint cj tc k t1 pic wd t2 kx
  refine seal8 (dW, default, default, default, default, default, default, default) ?_
  generalize sl8_0 _ _ = w, sl8_1 _ _ = x, sl8_2 _ _ = dx, sl8_3 _ _ = d, sl8_4 _ _ = q, sl8_5 _ _ = u, sl8_6 _ _ = sl, sl8_7 _ _ = k0
  refine seal8 (default, default, default, default, default, default, default, default) ?_
  generalize sl8_0 _ _ = leg, sl8_1 _ _ = odd, sl8_2 _ _ = pic0, sl8_3 _ _ = joint, sl8_4 _ _ = cj, sl8_5 _ _ = tc, sl8_6 _ _ = k, sl8_7 _ _ = t1
  refine seal3 (default, default, default) ?_
  generalize sl3_0 _ _ = pic, sl3_1 _ _ = wd, sl3_2 _ _ = t2
  refine seal1 (dCx) ?_
  generalize eps _ _ = kx
  w_top off
  intro B F N X T hdp hun hP
  have _ : Dm := Dm.mk
  have _ : Rim := Rim.mk
  k_with_none
  k_with "k0" => (k_here; (with_reducible show wpAny _ _ (callWith _ (Value.ref _) _ (backTo _ (starEach [] _)) []) _ _ _); k_dflt (refine' callWith_K0 ?k1_q9 ?k2_q9 ?_; (case k1_q9 => first | with_reducible assumption | exact Frag.In.keeps (by with_reducible assumption) (Fr.keep (by with_reducible assumption))); (case k2_q9 => k_is); k_whole))
  k_with "fold" => (k_fold; (with_reducible rename Dm => d9); revert d9; revert ek; revert qk; intro qk ek _)
  k_with "seal0" => k_extra "seal"
  k_with "seal" =>
    (with_reducible show wpAny _ _ (execs (_ :: _) _) _ _ _)
    (try k_extra "preseal")
    (fail_if_success (have y9 := ‹_›; (with_reducible have y8 : Rim := y9)))
    (repeat ((fail_if_success (have y9 := ‹_›; (with_reducible have y8 : Rim := y9))); first | ((fail_if_success (have y9 := ‹_›; have y8 : (_ : Prop) := y9)); clear (‹_›)) | revert (‹_›)))
    (repeat (first
      | ((with_reducible refine seal2 dHT ?_); (generalize sl2_0 _ _ = z8, sl2_1 _ _ = z7))
      | ((with_reducible refine seal1 dHp ?_); (generalize eps _ _ = z8))
      | ((with_reducible refine seal1 (0 : Nat) ?_); (generalize eps _ _ = z8))
      | ((with_reducible refine seal1 default ?_); (generalize eps _ _ = z8))
      | (with_reducible intro _)))
    ((with_reducible rename Rim => m9); revert m9; intro _)

  obtain ⟨hx, hdx⟩ := hP
  ((try ((with_reducible rename Rim => m9); revert m9; intro _)); k_steps)
  all_goals (try dsimp only)
  all_goals (refine Done.mk (by assumption) (congrArg Value.bool ?_))
  all_goals simp [held, *]
def cjn (wd : Str) (cj : Int) : Int :=
  if (wd == Str.ofString "Consonant") = true then 1
  else if (wd == Str.ofString "Linker") = true ∧ cj > 0 then 2
  else if ([Str.ofString "Extend", Str.ofString "Linker"].any (fun x => x == wd)) = false then 0 else cj
theorem or_tt {a b : Bool} (h : a = true) : a = (a || b) := by subst h; rfl
theorem or_ff {a b : Bool} (h : a = false) : b = (a || b) := by subst h; rfl
theorem or_and1 {a b c : Bool} (h : a = false) (h' : b = false) : b = (a || (b && c)) := by subst h; subst h'; rfl
theorem or_and2 {a b c : Bool} (h : a = false) (h' : b = true) : c = (a || (b && c)) := by subst h; subst h'; rfl

theorem c_take : ∀ (w : World) (x : Addr) (dx : Addr) (d : Addr) (q : Nat → Int) (u : Nat → Tok) (sl : Array (Option Value)) (k0 : Value) (leg : Bool) (odd : Bool) (pic0 : Bool) (joint : Bool) (cj : Int) (tc : Tok) (k : Str) (t1 : Tok) (pic : Bool) (wd : Str) (t2 : Tok), (@Ne Nat x dx) → CtrM w 167 1 [.ref x, .str k t1, .bool pic, .str wd t2] [(x, ⟨.ref 170, some dx, .plain, sl⟩), (dx, dictOf [⟨q 0, .str (Str.ofString "data_asked") (u 0), .ref d⟩, ⟨q 1, .str (Str.ofString "is_legacy") (u 1), .bool leg⟩, ⟨q 2, .str (Str.ofString "kind") (u 2), k0⟩, ⟨q 3, .str (Str.ofString "is_odd") (u 3), .bool (odd)⟩, ⟨q 4, .str (Str.ofString "has_picture") (u 4), .bool (pic0)⟩, ⟨q 5, .str (Str.ofString "has_joint") (u 5), .bool (joint)⟩, ⟨q 6, .str (Str.ofString "conjunct") (u 6), .int (cj) tc⟩] 7)] (fun _ => True) (fun v mu => v = .none ∧ ∃ (cj' : Int) (t tc' : Tok), mu = [(x, ⟨.ref 170, some dx, .plain, sl⟩), (dx, dictOf [⟨q 0, .str (Str.ofString "data_asked") (u 0), .ref d⟩, ⟨q 1, .str (Str.ofString "is_legacy") (u 1), .bool leg⟩, ⟨q 2, .str (Str.ofString "kind") (u 2), .str k t⟩, ⟨q 3, .str (Str.ofString "is_odd") (u 3), .bool ((k == Str.ofString "Regional_Indicator") && !odd)⟩, ⟨q 4, .str (Str.ofString "has_picture") (u 4), .bool (pic || ((k == Str.ofString "Extend") && pic0))⟩, ⟨q 5, .str (Str.ofString "has_joint") (u 5), .bool ((k == Str.ofString "ZWJ") && pic0)⟩, ⟨q 6, .str (Str.ofString "conjunct") (u 6), .int (cj') tc'⟩] 7)] ∧ cj' = cjn wd cj) := by
  intro w x dx d q u sl k0 leg odd pic0 joint cj tc k t1 pic wd t2 hne
  k_dflt (refine' CtrM.bodyX Mono.top (binds := [(Str.ofString "self", .ref x), (Str.ofString "kind", .str k t1), (Str.ofString "is_picture", .bool pic), (Str.ofString "word", .str wd t2)]) ?ho ?hcd ?hbind ?hloc ?h ?hcell ?hd1 ?hco ?hgen ?hk; (case ho => k_is); (case hcd => k_is); (case hbind => first | exact fun _ _ => BindsTo.of_eq rfl | exact fun _ X' => binds_K X' rfl (by k_is) rfl rfl rfl); (case hloc => exact locs rfl); (case hcell => decide); (case hd1 => decide); (case hco => exact rfl); (case hgen => exact rfl); (case hk => exact rfl))
  intro kx
  revert hne
  revert w x dx d q u sl k0 leg odd pic0 joint cj tc k t1 pic wd t2 kx
  refine seal8 (dW, default, default, default, default, default, default, default) ?_
  generalize sl8_0 _ _ = w, sl8_1 _ _ = x, sl8_2 _ _ = dx, sl8_3 _ _ = d, sl8_4 _ _ = q, sl8_5 _ _ = u, sl8_6 _ _ = sl, sl8_7 _ _ = k0
  refine seal8 (default, default, default, default, default, default, default, default) ?_
  generalize sl8_0 _ _ = leg, sl8_1 _ _ = odd, sl8_2 _ _ = pic0, sl8_3 _ _ = joint, sl8_4 _ _ = cj, sl8_5 _ _ = tc, sl8_6 _ _ = k, sl8_7 _ _ = t1
  refine seal3 (default, default, default) ?_
  generalize sl3_0 _ _ = pic, sl3_1 _ _ = wd, sl3_2 _ _ = t2
  refine seal1 (dCx) ?_
  generalize eps _ _ = kx
  intro hne
  w_top off
  intro B F N X T hdp hun hP
  have _ : Dm := Dm.mk
  have _ : Rim := Rim.mk
  k_with_none
  k_with "@compareOp NotIn str ref" => ((k_here; (with_reducible show wpAny _ _ (compareOp CmpOp.NotIn (Value.str _ _) (Value.ref _)) _ _ _); k_dflt (refine' notin_tuple_strs (topTup (by k_asm) (by k_asm) ?e_q9) ?k2_q9 ?_; (case e_q9 => k_is); (case k2_q9 => (repeat constructor); done))))
  k_with "@eval BoolOp" => ((k_here; k_extra "bool"))
  k_with "k0" => (k_here; (with_reducible show wpAny _ _ (callWith _ (Value.ref _) _ (backTo _ (starEach [] _)) []) _ _ _); k_dflt (refine' callWith_K0 ?k1_q9 ?k2_q9 ?_; (case k1_q9 => first | with_reducible assumption | exact Frag.In.keeps (by with_reducible assumption) (Fr.keep (by with_reducible assumption))); (case k2_q9 => k_is); k_whole))
  k_with "fold" => (k_fold; (with_reducible rename Dm => d9); revert d9; revert ek; revert qk; intro qk ek _)
  k_with "seal0" => k_extra "seal"
  k_with "seal" =>
    (with_reducible show wpAny _ _ (execs (_ :: _) _) _ _ _)
    (try k_extra "preseal")
    (fail_if_success (have y9 := ‹_›; (with_reducible have y8 : Rim := y9)))
    (repeat ((fail_if_success (have y9 := ‹_›; (with_reducible have y8 : Rim := y9))); first | ((fail_if_success (have y9 := ‹_›; have y8 : (_ : Prop) := y9)); clear (‹_›)) | revert (‹_›)))
    (repeat (first
      | ((with_reducible refine seal2 dHT ?_); (generalize sl2_0 _ _ = z8, sl2_1 _ _ = z7))
      | ((with_reducible refine seal1 dHp ?_); (generalize eps _ _ = z8))
      | ((with_reducible refine seal1 (0 : Nat) ?_); (generalize eps _ _ = z8))
      | ((with_reducible refine seal1 default ?_); (generalize eps _ _ = z8))
      | (with_reducible intro _)))
    ((with_reducible rename Rim => m9); revert m9; intro _)

  k_with "bool" =>
    fail_if_success (with_reducible show wpAny _ _ _ (Joined _ _) _ _)
    first
    | ((with_reducible show wpAny _ _ (eval (Expr.BoolOp _ [Expr.Compare _ _ [Expr.Constant (Const.str (Str.ofString "Regional_Indicator")) _ _] _, _] _) _) _ _ _); (refine eval_join (.bool ((k == Str.ofString "Regional_Indicator") && !odd)) ?_ ?_); (focus (((try ((with_reducible rename Rim => m9); revert m9; intro _)); k_steps); all_goals first | exact joined_b (and_ff (by assumption)) | exact joined_b (and_tt (by assumption)))); intro tk9)
    | ((with_reducible show wpAny _ _ (eval (Expr.BoolOp _ [Expr.Compare _ _ [Expr.Constant (Const.str (Str.ofString "ZWJ")) _ _] _, _] _) _) _ _ _); (refine eval_join (.bool ((k == Str.ofString "ZWJ") && pic0)) ?_ ?_); (focus (((try ((with_reducible rename Rim => m9); revert m9; intro _)); k_steps); all_goals first | exact joined_b (and_ff (by assumption)) | exact joined_b (and_tt (by assumption)))); intro tk9)
    | ((with_reducible show wpAny _ _ (eval (Expr.BoolOp _ [Expr.Name (Str.ofString "is_picture") _, _] _) _) _ _ _); (refine eval_join (.bool (pic || ((k == Str.ofString "Extend") && pic0))) ?_ ?_); (focus (((try ((with_reducible rename Rim => m9); revert m9; intro _)); k_steps); all_goals first | exact joined_b (or_tt (by assumption)) | exact joined_b (or_and1 (by assumption) (by assumption)) | exact joined_b (or_and2 (by assumption) (by assumption)))); intro tk9)
  ((try ((with_reducible rename Rim => m9); revert m9; intro _)); k_steps)
  all_goals (try dsimp only)
  all_goals refine DoneM.mk (mu' := [(x, _), (dx, _)]) (by assumption) (by assumption) (List.forall_mem_cons.mpr ⟨by k_mem, List.forall_mem_cons.mpr ⟨by k_mem, List.forall_mem_nil _⟩⟩) ⟨rfl, _, _, _, rfl, ?_⟩
  all_goals first
    | (unfold cjn; rw [if_pos (by assumption)]; done)
    | (unfold cjn; rw [if_neg (by simp [*]), if_pos ⟨by assumption, by assumption⟩]; done)
    | (unfold cjn; rw [if_neg (by simp [*]), if_neg (by simp [*]), if_pos (by assumption)]; done)
    | (unfold cjn; rw [if_neg (by simp [*]), if_neg (by simp [*]), if_neg (by simp only [*]; decide)]; done)
def optS : Option Str → Tok → Value
  | none, _ => .none
  | some k, t => .str k t
structure SS where
  kind : Option Str
  odd : Bool
  pic : Bool
  joint : Bool
  cj : Int
def dSS : SS := ⟨none, false, false, false, 0⟩
def SS.told (D : Db) (leg : Bool) (S : SS) (c : Int) : Bool :=
  match S.kind with
  | none => true
  | some k => match pairS k (D.g c) leg with
    | some b => b
    | none => !held (D.g c) (D.e c) (D.i c) leg S.odd S.joint S.cj
def SS.step (D : Db) (S : SS) (c : Int) : SS :=
  ⟨some (D.g c), (D.g c == Str.ofString "Regional_Indicator") && !S.odd, D.e c || ((D.g c == Str.ofString "Extend") && S.pic), (D.g c == Str.ofString "ZWJ") && S.pic, cjn (D.i c) S.cj⟩
def strL (x dx d : Addr) (q : Nat → Int) (u : Nat → Tok) (sl : Array (Option Value)) (leg : Bool) (S : SS) (tk tc : Tok) : List (Addr × Obj) :=
  [(x, ⟨.ref 170, some dx, .plain, sl⟩), (dx, dictOf [⟨q 0, .str (Str.ofString "data_asked") (u 0), .ref d⟩, ⟨q 1, .str (Str.ofString "is_legacy") (u 1), .bool leg⟩, ⟨q 2, .str (Str.ofString "kind") (u 2), optS S.kind tk⟩, ⟨q 3, .str (Str.ofString "is_odd") (u 3), .bool (S.odd)⟩, ⟨q 4, .str (Str.ofString "has_picture") (u 4), .bool (S.pic)⟩, ⟨q 5, .str (Str.ofString "has_joint") (u 5), .bool (S.joint)⟩, ⟨q 6, .str (Str.ofString "conjunct") (u 6), .int (S.cj) tc⟩] 7)]
theorem c_put : ∀ (w : World) (x : Addr) (dx : Addr) (d : Addr) (D : Db) (q : Nat → Int) (u : Nat → Tok) (sl : Array (Option Value)) (leg : Bool) (S : SS) (tk0 : Tok) (tc0 : Tok) (c : Int) (t : Tok), (8704 ≤ c) → (c < 8720) → (@Ne Nat x dx) → CtrM w 153 10 [.ref x, .int c t] (strL x dx d q u sl leg S tk0 tc0) (DataAt w d D) (fun v mu => v = .bool (S.told D leg c) ∧ ∃ tk tc, mu = strL x dx d q u sl leg (S.step D c) tk tc) := by
  intro w x dx d D q u sl leg S tk0 tc0 c t hc hc' hne
  k_dflt (refine' CtrM.bodyX DataAt.mono (binds := [(Str.ofString "self", .ref x), (Str.ofString "code", .int c t)]) ?ho ?hcd ?hbind ?hloc ?h ?hcell ?hd1 ?hco ?hgen ?hk; (case ho => k_is); (case hcd => k_is); (case hbind => first | exact fun _ _ => BindsTo.of_eq rfl | exact fun _ X' => binds_K X' rfl (by k_is) rfl rfl rfl); (case hloc => exact locs rfl); (case hcell => decide); (case hd1 => decide); (case hco => exact rfl); (case hgen => exact rfl); (case hk => exact rfl))
  intro kx
  revert hc hc' hne
  revert w x dx d D q u sl leg S tk0 tc0 c t kx
  refine seal8 (dW, default, default, default, ⟨fun _ => default, fun _ => default, fun _ => false⟩, default, default, default) ?_
  generalize sl8_0 _ _ = w, sl8_1 _ _ = x, sl8_2 _ _ = dx, sl8_3 _ _ = d, sl8_4 _ _ = D, sl8_5 _ _ = q, sl8_6 _ _ = u, sl8_7 _ _ = sl
  refine seal5 (default, dSS, default, default, default) ?_
  generalize sl5_0 _ _ = leg, sl5_1 _ _ = S, sl5_2 _ _ = tk0, sl5_3 _ _ = tc0, sl5_4 _ _ = c
  refine seal2 (default, dCx) ?_
  generalize sl2_0 _ _ = t, sl2_1 _ _ = kx
  intro hc hc' hne
  w_top off
  intro B F N X T hdp hun hP
  have _ : Dm := Dm.mk
  have _ : Rim := Rim.mk
  k_with_none
  k_with "@getMethod ref" => ((k_here; (with_reducible show wpAny _ _ (getMethod (Value.ref _) (Str.ofString "get") _) _ _ _); k_dflt (refine getM_data (by k_asm) (by k_asm) (by with_reducible assumption) ?_)))
  k_with "@call ref" => ((k_here; (with_reducible show wpAny _ _ (call (Value.ref 276) _) _ _ _); k_dflt (refine' Ctr.useT (Ctr.imp (c_get_incb _ _ _ _ _ _ (by first | assumption | lia) (by first | assumption | lia)) (fun _ h => isDv_s h)) ?k1_q9 ?k2_q9 ?k3_q9 ?k4_q9 ?k5_q9 ?k6_q9 ?k7_q9 ?k8_q9 ?k9_q9 ?_; (case k1_q9 => k_asm); (case k2_q9 => k_asm); (case k3_q9 => k_asm); (case k4_q9 => k_asm); (case k5_q9 => k_asm); (case k6_q9 => first | exact rfl | assumption); (case k7_q9 => exact DataAt.mono _ _ (Fr.keep (by k_asm)) (by assumption)); (case k8_q9 => ktr_room); (case k9_q9 => ktr_units)); intro t9 h9 tk9 st9 F9 N9; (try k_sweep); (try k_fold)); (all_goals (try ((with_reducible show wpAny _ _ _ _ _ _); (try revert t9); (try revert h9); (try revert tk9); (try revert st9); (try revert F9); (try revert N9); intros))))
  k_with "@call ref" => ((k_here; (with_reducible show wpAny _ _ (call (Value.ref 276) _) _ _ _); k_dflt (refine' Ctr.useV (Ctr.imp (c_get_ep _ _ _ _ _ _ (by first | assumption | lia) (by first | assumption | lia)) (fun _ h => isDv_b h)) ?k1_q9 ?k2_q9 ?k3_q9 ?k4_q9 ?k5_q9 ?k6_q9 ?k7_q9 ?k8_q9 ?k9_q9 ?_; (case k1_q9 => k_asm); (case k2_q9 => k_asm); (case k3_q9 => k_asm); (case k4_q9 => k_asm); (case k5_q9 => k_asm); (case k6_q9 => first | exact rfl | assumption); (case k7_q9 => exact DataAt.mono _ _ (Fr.keep (by k_asm)) (by assumption)); (case k8_q9 => ktr_room); (case k9_q9 => ktr_units)); intro h9 tk9 st9 F9 N9; (try k_sweep); (try k_fold)); (all_goals (try ((with_reducible show wpAny _ _ _ _ _ _); (try revert h9); (try revert tk9); (try revert st9); (try revert F9); (try revert N9); intros))))
  k_with "@call ref" => ((k_here; (with_reducible show wpAny _ _ (call (Value.ref 45) _) _ _ _); k_dflt (refine' Ctr.useT (c_kind _ _ _ _ _ (by first | assumption | lia) (by first | assumption | lia)) ?k1_q9 ?k2_q9 ?k3_q9 ?k4_q9 ?k5_q9 ?k6_q9 ?k7_q9 ?k8_q9 ?k9_q9 ?_; (case k1_q9 => k_asm); (case k2_q9 => k_asm); (case k3_q9 => k_asm); (case k4_q9 => k_asm); (case k5_q9 => k_asm); (case k6_q9 => first | exact rfl | assumption); (case k7_q9 => exact DataAt.mono _ _ (Fr.keep (by k_asm)) (by assumption)); (case k8_q9 => ktr_room); (case k9_q9 => ktr_units)); intro t9 h9 tk9 st9 F9 N9; (try k_sweep); (try k_fold)); (all_goals (try ((with_reducible show wpAny _ _ _ _ _ _); (try revert t9); (try revert h9); (try revert tk9); (try revert st9); (try revert F9); (try revert N9); intros))))
  k_with "@call ref" => ((k_here; (with_reducible show wpAny _ _ (call (Value.ref 59) _) _ _ _); k_dflt (refine' Ctr.useV (c_pair _ _ _ _ _ _) ?k1_q9 ?k2_q9 ?k3_q9 ?k4_q9 ?k5_q9 ?k6_q9 ?k7_q9 ?k8_q9 ?k9_q9 ?_; (case k1_q9 => k_asm); (case k2_q9 => k_asm); (case k3_q9 => k_asm); (case k4_q9 => k_asm); (case k5_q9 => k_asm); (case k6_q9 => first | exact rfl | assumption); (case k7_q9 => trivial); (case k8_q9 => ktr_room); (case k9_q9 => ktr_units)); intro h9 tk9 st9 F9 N9; (rcases hq9 : pairS _ _ _ with _ | b9 <;> (simp only [optV])); (try k_sweep); (try k_fold)); (all_goals (try ((with_reducible show wpAny _ _ _ _ _ _); (try revert h9); (try revert tk9); (try revert st9); (try revert F9); (try revert N9); intros))))
  k_with "@call ref" => ((k_here; (with_reducible show wpAny _ _ (call (Value.ref 160) _) _ _ _); k_dflt (refine' Ctr.useV (c_held _ _ _ _ _ _ _ _ _ _ _ _ _ _ _ _ _ _ _) ?k1_q9 ?k2_q9 ?k3_q9 ?k4_q9 ?k5_q9 ?k6_q9 ?k7_q9 ?k8_q9 ?k9_q9 ?_; (case k1_q9 => k_asm); (case k2_q9 => k_asm); (case k3_q9 => k_asm); (case k4_q9 => k_asm); (case k5_q9 => k_asm); (case k6_q9 => first | exact rfl | assumption); (case k7_q9 => exact ⟨News.get (by k_asm) (by k_mem), News.get (by k_asm) (by k_mem)⟩); (case k8_q9 => ktr_room); (case k9_q9 => ktr_units)); intro h9 tk9 st9 F9 N9; (try k_sweep); (try k_fold)); (all_goals (try ((with_reducible show wpAny _ _ _ _ _ _); (try revert h9); (try revert tk9); (try revert st9); (try revert F9); (try revert N9); intros))))
  k_with "@call ref" => ((k_here; (with_reducible show wpAny _ _ (call (Value.ref 167) _) _ _ _); k_dflt (refine' CtrM.use (c_take _ _ _ _ _ _ _ _ _ _ _ _ _ _ _ _ _ _ _ (by k_asm)) ?k1_q9 ?k2_q9 ?k3_q9 ?k4_q9 ?kM_q9 ?k5_q9 ?k6_q9 ?k7_q9 ?k8_q9 ?k9_q9 ?_; (case k1_q9 => k_asm); (case k2_q9 => k_asm); (case k3_q9 => k_asm); (case k4_q9 => k_asm); (case kM_q9 => exact (List.forall_mem_cons.mpr ⟨by k_mem, List.forall_mem_cons.mpr ⟨by k_mem, List.forall_mem_nil _⟩⟩)); (case k5_q9 => k_asm); (case k6_q9 => first | exact rfl | assumption); (case k7_q9 => trivial); (case k8_q9 => ktr_room); (case k9_q9 => ktr_units); intro r9 h9 tk9 mu9 F9 N9 rest9 hr9; (obtain ⟨hr9, cj9, tt9, tc9, he9, hc9⟩ := hr9; subst hr9; subst hc9; subst he9; clear rest9; (try k_sweep)); (try k_fold))); (all_goals (try ((with_reducible show wpAny _ _ _ _ _ _); (try revert r9); (try revert h9); (try revert tk9); (try revert mu9); (try revert F9); (try revert N9); (try revert rest9); (try revert hr9); (try revert cj9); (try revert tt9); (try revert tc9); (try revert he9); (try revert hc9); intros))))
  k_with "k0" => (k_here; (with_reducible show wpAny _ _ (callWith _ (Value.ref _) _ (backTo _ (starEach [] _)) []) _ _ _); k_dflt (refine' callWith_K0 ?k1_q9 ?k2_q9 ?_; (case k1_q9 => first | with_reducible assumption | exact Frag.In.keeps (by with_reducible assumption) (Fr.keep (by with_reducible assumption))); (case k2_q9 => k_is); k_whole))
  k_with "fold" => (k_fold; (with_reducible rename Dm => d9); revert d9; revert ek; revert qk; intro qk ek _)
  k_with "seal0" => k_extra "seal"
  k_with "seal" =>
    (with_reducible show wpAny _ _ (execs (_ :: _) _) _ _ _)
    (try k_extra "preseal")
    (fail_if_success (have y9 := ‹_›; (with_reducible have y8 : Rim := y9)))
    (repeat ((fail_if_success (have y9 := ‹_›; (with_reducible have y8 : Rim := y9))); first | ((fail_if_success (have y9 := ‹_›; have y8 : (_ : Prop) := y9)); clear (‹_›)) | revert (‹_›)))
    (repeat (first
      | ((with_reducible refine seal2 dHT ?_); (generalize sl2_0 _ _ = z8, sl2_1 _ _ = z7))
      | ((with_reducible refine seal1 dHp ?_); (generalize eps _ _ = z8))
      | ((with_reducible refine seal1 (0 : Nat) ?_); (generalize eps _ _ = z8))
      | ((with_reducible refine seal1 default ?_); (generalize eps _ _ = z8))
      | (with_reducible intro _)))
    ((with_reducible rename Rim => m9); revert m9; intro _)

  rcases hkd : S.kind with _ | k0
  rotate_left
  (revert k0; refine seal1 (default) ?_; generalize eps _ _ = k0; intro hkd)
  rotate_left
  all_goals simp only [strL, optS, hkd] at N
  all_goals ((try ((with_reducible rename Rim => m9); revert m9; intro _)); k_steps)
  all_goals (try k_unfold)
  all_goals (try dsimp only)
  all_goals refine DoneM.mk (mu' := strL _ _ _ _ _ _ _ _ _ _) (by assumption) (by assumption) (fun p hp => hp) ⟨congrArg Value.bool ?_, _, _, rfl⟩
  all_goals simp only [SS.told, *]
/-- a class whose __init__ is known, called: the object and its dict -/
theorem Cls.use {w : World} {C fI : Addr} {d : Nat} {args : List Value} {P : Heap → Prop} {R : Value → List (Addr × Obj) → Addr → Addr → Prop}
    {mean : ExcName → Option Value} {mg mb : Str → Option Value} {dp un : Nat} {gd : Option (List Code)} {cn : Str} {cs : Scope} {a : Addr} {ccd : Value} {cl : List (Str × Addr)} {outer : List Env} {A₀ : Around} {base h₀ : Heap} {L : Addr} {m : Str → Option Value} {s : Shared} {Q E : Value → Shared → Prop} {news : List (Addr × Obj)}
    (I : ∀ x dx, @Ne Nat x dx → CtrM w fI d (.ref x :: args) [(x, instObj C dx), (dx, dictOf [] 0)] P (fun v mu => v = .none ∧ R v mu x dx))
    (hm : makesIn (hd.heap_1 w.params) C = true) (hi : findIn (hd.heap_1 w.params) (.ref C) "__init__" = some (some (.ref fI))) (hf : isFn (hd.heap_1 w.params) (.ref fI) = true)
    (B : Below A₀ base outer h₀) (F : Fr h₀ L s.heap m) (X : (hd.heap_1 w.params).In h₀) (N : News h₀ L s.heap news) (T : Top view lv mean mg mb h₀) (hk : cs.kind = .function) (hP : P h₀) (hd : dp + d + 2 < recursionLimit) (hu : un + 8 * d + 8 < cLine)
    (ret : ∀ x dx h' tk' mu', Fr h₀ L h' m → News h₀ L h' mu' → (∀ p ∈ news, h'.get? p.1 = some p.2 ∧ p.1 ≠ L ∧ h₀.get? p.1 = none) → (∀ p ∈ news, @LT.lt Nat _ p.1 dx) → @LT.lt Nat _ dx x → @Ne Nat x dx → R .none mu' x dx → Q (.ref x) { s with heap := h', toks := tk' }) :
    wpAny (model PySem.Challenge.rw_pq1305_01.row.prog w) (ktrTop dp un gd cn cs L a ccd cl outer) (call (.ref C) args) Q E s := by
  refine call_cls F X N hm hi hf fun x dx h' F' N' hlt hxd => ?_
  have hne : @Ne Nat x dx := Nat.ne_of_gt hxd
  have e : (ktrTop dp un gd cn cs L a ccd cl outer).under (.builtin "type.__call__" ⟨.ref C :: args, []⟩) = ktrTop ((ktrTop dp un gd cn cs L a ccd cl outer).under (.builtin "type.__call__" ⟨.ref C :: args, []⟩)).depth ((ktrTop dp un gd cn cs L a ccd cl outer).under (.builtin "type.__call__" ⟨.ref C :: args, []⟩)).units gd cn cs L a ccd cl outer := rfl
  rw [e]
  refine I x dx hne mean mg mb _ _ gd cn cs a ccd cl outer A₀ base h₀ L m _ _ B F' X (fun p hp => N' p ?_) T hk ?_ ?_ hP ?_
  · rcases List.mem_cons.mp hp with rfl | hp
    · exact List.mem_cons_self
    · rcases List.mem_cons.mp hp with rfl | hp
      · exact List.mem_cons_of_mem _ List.mem_cons_self
      · cases hp
  · rw [depth_under_make]; show dp + 1 + d < recursionLimit; lia
  · rw [units_under_make]; show un + 1 + 8 * d < cLine; lia
  · intro r h₂ tk₂ mu' st F₂ N₂ _ hr
    obtain ⟨rfl, hr⟩ := hr
    refine ⟨rfl, ret x dx h₂ tk₂ mu' F₂ N₂ (fun p hp => ?_) (fun p hp => hlt p hp) hxd hne hr⟩
    have z := N' p (List.mem_cons_of_mem _ (List.mem_cons_of_mem _ hp))
    refine ⟨st _ _ z.1 ?_, z.2⟩
    intro hm
    have h1 := hlt p hp
    rcases List.mem_cons.mp hm with q | hm
    · exact absurd (Nat.lt_trans h1 hxd) (by rw [q]; exact Nat.lt_irrefl _)
    · have q := List.mem_singleton.mp hm
      exact absurd h1 (by rw [q]; exact Nat.lt_irrefl _)

theorem strL_of (x dx d : Addr) (leg : Bool) (h0 h1 h2 h3 h4 h5 h6 : Int) (t0 t1 t2 t3 t4 t5 t6 tc : Tok) : ∃ q u tk tc', [(x, instObj 170 dx), (dx, dictOf [⟨h0, .str (Str.ofString "data_asked") t0, .ref d⟩, ⟨h1, .str (Str.ofString "is_legacy") t1, .bool leg⟩, ⟨h2, .str (Str.ofString "kind") t2, .none⟩, ⟨h3, .str (Str.ofString "is_odd") t3, .bool false⟩, ⟨h4, .str (Str.ofString "has_picture") t4, .bool false⟩, ⟨h5, .str (Str.ofString "has_joint") t5, .bool false⟩, ⟨h6, .str (Str.ofString "conjunct") t6, .int 0 tc⟩] 7)] = strL x dx d q u #[] leg ⟨none, false, false, false, 0⟩ tk tc' :=
  ⟨fun i => [h0, h1, h2, h3, h4, h5, h6].getD i 0, fun i => [t0, t1, t2, t3, t4, t5, t6].getD i 0, 0, tc, rfl⟩
theorem c_init : ∀ (w : World) (d : Addr) (leg : Bool) (x : Addr) (dx : Addr), (@Ne Nat x dx) → CtrM w 146 1 [.ref x, .ref d, .bool leg] [(x, instObj 170 dx), (dx, dictOf [] 0)] (fun _ => True) (fun v mu => v = .none ∧ ∃ q u tk tc, mu = strL x dx d q u #[] leg ⟨none, false, false, false, 0⟩ tk tc) := by
  intro w d leg x dx hne
  k_dflt (refine' CtrM.bodyX Mono.top (binds := [(Str.ofString "self", .ref x), (Str.ofString "data", .ref d), (Str.ofString "is_legacy", .bool leg)]) ?ho ?hcd ?hbind ?hloc ?h ?hcell ?hd1 ?hco ?hgen ?hk; (case ho => k_is); (case hcd => k_is); (case hbind => first | exact fun _ _ => BindsTo.of_eq rfl | exact fun _ X' => binds_K X' rfl (by k_is) rfl rfl rfl); (case hloc => exact locs rfl); (case hcell => decide); (case hd1 => decide); (case hco => exact rfl); (case hgen => exact rfl); (case hk => exact rfl))
  intro kx
  revert hne
  revert w d leg x dx kx
  refine seal5 (dW, default, default, default, default) ?_
  generalize sl5_0 _ _ = w, sl5_1 _ _ = d, sl5_2 _ _ = leg, sl5_3 _ _ = x, sl5_4 _ _ = dx
  refine seal1 (dCx) ?_
  generalize eps _ _ = kx
  intro hne
  w_top off
  intro B F N X T hdp hun hP
  have _ : Dm := Dm.mk
  have _ : Rim := Rim.mk
  k_with_none
  k_with "k0" => (k_here; (with_reducible show wpAny _ _ (callWith _ (Value.ref _) _ (backTo _ (starEach [] _)) []) _ _ _); k_dflt (refine' callWith_K0 ?k1_q9 ?k2_q9 ?_; (case k1_q9 => first | with_reducible assumption | exact Frag.In.keeps (by with_reducible assumption) (Fr.keep (by with_reducible assumption))); (case k2_q9 => k_is); k_whole))
  k_with "fold" => (k_fold; (with_reducible rename Dm => d9); revert d9; revert ek; revert qk; intro qk ek _)
  k_with "seal0" => k_extra "seal"
  k_with "seal" =>
    (with_reducible show wpAny _ _ (execs (_ :: _) _) _ _ _)
    (try k_extra "preseal")
    (fail_if_success (have y9 := ‹_›; (with_reducible have y8 : Rim := y9)))
    (repeat ((fail_if_success (have y9 := ‹_›; (with_reducible have y8 : Rim := y9))); first | ((fail_if_success (have y9 := ‹_›; have y8 : (_ : Prop) := y9)); clear (‹_›)) | revert (‹_›)))
    (repeat (first
      | ((with_reducible refine seal2 dHT ?_); (generalize sl2_0 _ _ = z8, sl2_1 _ _ = z7))
      | ((with_reducible refine seal1 dHp ?_); (generalize eps _ _ = z8))
      | ((with_reducible refine seal1 (0 : Nat) ?_); (generalize eps _ _ = z8))
      | ((with_reducible refine seal1 default ?_); (generalize eps _ _ = z8))
      | (with_reducible intro _)))
    ((with_reducible rename Rim => m9); revert m9; intro _)

  ((try ((with_reducible rename Rim => m9); revert m9; intro _)); k_steps)
  all_goals (try dsimp only)
  refine' DoneM.mk (by assumption) (by assumption) ?hs ⟨rfl, strL_of x dx d leg _ _ _ _ _ _ _ _ _ _ _ _ _ _ _⟩
  case hs => exact (List.forall_mem_cons.mpr ⟨by k_mem, List.forall_mem_cons.mpr ⟨by k_mem, List.forall_mem_nil _⟩⟩)
theorem Ctr.bodyC {w : World} {f : Addr} {d : Nat} {args : List Value} {P : Heap → Prop} {R : Value → Prop}
    {name qual : Str} {params : Arguments} {body : List Stmt} {scope : Scope} {dV kV doc pm cdv ct oc : Value} {an od : Option Addr} {osl : Array (Option Value)} {binds : List (Str × Value)}
    (ho : (hd.heap_1 w.params).lookup f = some ⟨oc, od, .func (fnOf name qual params body scope dV kV doc pm an cdv ct), osl⟩) (hcd : codeIn (hd.heap_1 w.params) cdv qual = true)
    (hbind : ∀ s : Shared, (hd.heap_1 w.params).In s.heap → BindsTo s (fnOf name qual params body scope dV kV doc pm an cdv ct) ⟨args, []⟩ binds)
    (hkind : (binds.all fun y => scope.names.lookup y.1 == some .local || scope.names.lookup y.1 == some .cell) = true) (hnd : ((cellsFrom 0 scope.names []).map (·.1)).Nodup)
    (h : ∀ (mean : ExcName → Option Value) (mg mb : Str → Option Value) (dp un : Nat) (gd : Option (List Code)) (cn : Str) (cs : Scope) (L a : Addr) (ccd : Value) (cl : List (Str × Addr)) (outer : List Env) (A₀ : Around) (base g : Heap) (L' : Addr) (cells : List (Addr × Obj)) (s : Shared),
      Below A₀ base (envX cn cs L a ccd cl :: outer) g → Fr g L' s.heap (bindL (envOfC qual scope L' f cdv).kindOf binds fun _ => none) → News g L' s.heap cells → CellsAre (bindC (envOfC qual scope L' f cdv).kindOf binds fun _ => none) (cellsFrom (L' + 1) scope.names []) cells →
      (hd.heap_1 w.params).In g → Top view lv mean mg mb g → dp + d < recursionLimit → un + 8 * d < cLine → P g →
      wpAny (model PySem.Challenge.rw_pq1305_01.row.prog w) ((ktrTop dp un gd cn cs L a ccd cl outer).deeper (envOfC qual scope L' f cdv)) (execs body (envOfC qual scope L' f cdv)) (Done g L' s R) (fun _ _ => False) s)
    (hd1 : 0 < d) (hco : scope.isCoroutine = false) (hgen : scope.isGenerator = false) (hk : scope.kind = .function) : Ctr w f d args P R := by
  intro mean mg mb dp un gd cn cs a ccd cl outer A₀ base h₀ L m s Q E B F X T hcs hdp hun hPs ret
  have X' := X.keeps F.keep
  have BG := pushX B F (env := envX cn cs L a ccd cl) rfl hcs
  refine wpAny_call ?_
  refine codeAny_call_function (by show dp < recursionLimit; lia) (X' _ _ ho) rfl hco hgen rfl (codeRec_of X' hcd) (hbind s X' _ _ _ _ ?_)
  refine wpAny_newFunctionEnv_cells hk (fun y hy => kindsX hkind _ y hy) fun env' he s' x => ?_
  subst he
  refine ⟨(T.nolimit.keeps F.keep).keeps x.toInCall.keep, codeAny_func ?_⟩
  obtain ⟨h₁, tk, rfl, _⟩ := x.done
  obtain ⟨cells, NC, Y⟩ := Cl.news (h₀ := s.heap) (Nat.le_refl _) fun n c hm => ⟨x.cell n c (lookup_of_mem_nodup (cellsFrom_names scope.names 0 (s.heap.objs.size + 1) [] [] rfl ▸ hnd) hm), x.above n c hm⟩
  refine wpAny_mono (h mean mg mb dp un gd cn cs L a ccd cl outer _ base s.heap s.heap.objs.size cells _ BG ⟨x.toInCall.ns, x.toInCall.keep, Nat.le_refl _⟩ NC Y X' (T.keeps F.keep) hdp hun hPs) ?_ (fun _ _ x => x.elim)
  rintro fl s₂ ⟨h', tk', m', rfl, F₂, r⟩
  exact ret _ h' tk' F₂.keep (F.keeps F₂.keep) r

theorem CtrM.bodyC {w : World} {f : Addr} {d : Nat} {args : List Value} {mu : List (Addr × Obj)} {P : Heap → Prop} {R : Value → List (Addr × Obj) → Prop} (hP : Mono P)
    {name qual : Str} {params : Arguments} {body : List Stmt} {scope : Scope} {dV kV doc pm cdv ct oc : Value} {an od : Option Addr} {osl : Array (Option Value)} {binds : List (Str × Value)}
    (ho : (hd.heap_1 w.params).lookup f = some ⟨oc, od, .func (fnOf name qual params body scope dV kV doc pm an cdv ct), osl⟩) (hcd : codeIn (hd.heap_1 w.params) cdv qual = true)
    (hbind : ∀ s : Shared, (hd.heap_1 w.params).In s.heap → BindsTo s (fnOf name qual params body scope dV kV doc pm an cdv ct) ⟨args, []⟩ binds)
    (hkind : (binds.all fun y => scope.names.lookup y.1 == some .local || scope.names.lookup y.1 == some .cell) = true) (hnd : ((cellsFrom 0 scope.names []).map (·.1)).Nodup)
    (h : ∀ (mean : ExcName → Option Value) (mg mb : Str → Option Value) (dp un : Nat) (gd : Option (List Code)) (cn : Str) (cs : Scope) (L a : Addr) (ccd : Value) (cl : List (Str × Addr)) (outer : List Env) (A₀ : Around) (base g : Heap) (L' : Addr) (cells : List (Addr × Obj)) (s : Shared),
      Below A₀ base (envX cn cs L a ccd cl :: outer) g → Fr g L' s.heap (bindL (envOfC qual scope L' f cdv).kindOf binds fun _ => none) → News g L' s.heap (cells ++ mu) → CellsAre (bindC (envOfC qual scope L' f cdv).kindOf binds fun _ => none) (cellsFrom (L' + 1) scope.names []) cells →
      (hd.heap_1 w.params).In g → Top view lv mean mg mb g → dp + d < recursionLimit → un + 8 * d < cLine → P g →
      wpAny (model PySem.Challenge.rw_pq1305_01.row.prog w) ((ktrTop dp un gd cn cs L a ccd cl outer).deeper (envOfC qual scope L' f cdv)) (execs body (envOfC qual scope L' f cdv)) (DoneM g L' s R) (fun _ _ => False) s)
    (hst : mu = []) (hd1 : 0 < d) (hco : scope.isCoroutine = false) (hgen : scope.isGenerator = false) (hk : scope.kind = .function) : CtrM w f d args mu P R := by
  subst hst
  intro mean mg mb dp un gd cn cs a ccd cl outer A₀ base h₀ L m s Rr B F X N T hcs hdp hun hPs ret
  have X' := X.keeps F.keep
  have BG := pushX B F (env := envX cn cs L a ccd cl) rfl hcs
  refine codeAny_call_function (by show dp < recursionLimit; lia) (X' _ _ ho) rfl hco hgen rfl (codeRec_of X' hcd) (hbind s X' _ _ _ _ ?_)
  refine wpAny_newFunctionEnv_cells hk (fun y hy => kindsX hkind _ y hy) fun env' he s' x => ?_
  subst he
  refine ⟨(T.nolimit.keeps F.keep).keeps x.toInCall.keep, codeAny_func ?_⟩
  obtain ⟨h₁, tk, rfl, _⟩ := x.done
  obtain ⟨cells, NC, Y⟩ := Cl.news (h₀ := s.heap) (Nat.le_refl _) fun n c hm => ⟨x.cell n c (lookup_of_mem_nodup (cellsFrom_names scope.names 0 (s.heap.objs.size + 1) [] [] rfl ▸ hnd) hm), x.above n c hm⟩
  refine wpAny_mono (h mean mg mb dp un gd cn cs L a ccd cl outer _ base s.heap s.heap.objs.size cells _ BG ⟨x.toInCall.ns, x.toInCall.keep, Nat.le_refl _⟩ (by rw [List.append_nil]; exact NC) Y X' (T.keeps F.keep) hdp hun (hP _ _ F.keep hPs)) ?_ (fun _ _ x => x.elim)
  rintro fl s₂ ⟨h', tk', m', mu', rfl, F₂, N₂, r⟩
  refine ret _ h' tk' mu' (fun b o e _ => F₂.keep b o e) (F.keeps F₂.keep) (fun p hp => ⟨(N₂ p hp).1, ?_, ?_⟩) (fun p hp => .inr (N₂ p hp).2.2) r
  · intro e
    obtain ⟨oL, _, _, hL, _⟩ := F.ns
    have := (N₂ p hp).2.2
    rw [e, hL] at this
    cases this
  · cases hq : h₀.get? p.1 with
    | none => rfl
    | some o =>
      have := F.keep _ _ hq
      rw [(N₂ p hp).2.2] at this
      cases this
theorem Ctr.bodyCX {w : World} {f : Addr} {d : Nat} {args : List Value} {P : Heap → Prop} {R : Value → Prop}
    {name qual : Str} {params : Arguments} {body : List Stmt} {scope : Scope} {dV kV doc pm cdv ct oc : Value} {an od : Option Addr} {osl : Array (Option Value)} {binds : List (Str × Value)}
    (ho : (hd.heap_1 w.params).lookup f = some ⟨oc, od, .func (fnOf name qual params body scope dV kV doc pm an cdv ct), osl⟩) (hcd : codeIn (hd.heap_1 w.params) cdv qual = true)
    (hbind : ∀ s : Shared, (hd.heap_1 w.params).In s.heap → BindsTo s (fnOf name qual params body scope dV kV doc pm an cdv ct) ⟨args, []⟩ binds)
    (hkind : (binds.all fun y => scope.names.lookup y.1 == some .local || scope.names.lookup y.1 == some .cell) = true) (hnd : ((cellsFrom 0 scope.names []).map (·.1)).Nodup)
    (h : ∀ q : Cx, ∀ cells : List (Addr × Obj), Below q.A₀ q.base (envX q.cn q.cs q.L q.a q.ccd q.cl :: q.outer) q.g → Fr q.g q.L' q.s.heap (bindL (envOfC qual scope q.L' f cdv).kindOf binds fun _ => none) → News q.g q.L' q.s.heap cells → CellsAre (bindC (envOfC qual scope q.L' f cdv).kindOf binds fun _ => none) (cellsFrom (q.L' + 1) scope.names []) cells →
      (hd.heap_1 w.params).In q.g → Top view lv q.mean q.mg q.mb q.g → q.dp + d < recursionLimit → q.un + 8 * d < cLine → P q.g →
      wpAny (model PySem.Challenge.rw_pq1305_01.row.prog w) ((ktrTop q.dp q.un q.gd q.cn q.cs q.L q.a q.ccd q.cl q.outer).deeper (envOfC qual scope q.L' f cdv)) (execs body (envOfC qual scope q.L' f cdv)) (Done q.g q.L' q.s R) (fun _ _ => False) q.s)
    (hd1 : 0 < d) (hco : scope.isCoroutine = false) (hgen : scope.isGenerator = false) (hk : scope.kind = .function) : Ctr w f d args P R :=
  Ctr.bodyC ho hcd hbind hkind hnd (fun mean mg mb dp un gd cn cs L a ccd cl outer A₀ base g L' cells s => h ⟨mean, mg, mb, dp, un, gd, cn, cs, L, a, ccd, cl, outer, A₀, base, g, L', s⟩ cells) hd1 hco hgen hk
theorem CtrM.bodyCX {w : World} {f : Addr} {d : Nat} {args : List Value} {mu : List (Addr × Obj)} {P : Heap → Prop} {R : Value → List (Addr × Obj) → Prop} (hP : Mono P)
    {name qual : Str} {params : Arguments} {body : List Stmt} {scope : Scope} {dV kV doc pm cdv ct oc : Value} {an od : Option Addr} {osl : Array (Option Value)} {binds : List (Str × Value)}
    (ho : (hd.heap_1 w.params).lookup f = some ⟨oc, od, .func (fnOf name qual params body scope dV kV doc pm an cdv ct), osl⟩) (hcd : codeIn (hd.heap_1 w.params) cdv qual = true)
    (hbind : ∀ s : Shared, (hd.heap_1 w.params).In s.heap → BindsTo s (fnOf name qual params body scope dV kV doc pm an cdv ct) ⟨args, []⟩ binds)
    (hkind : (binds.all fun y => scope.names.lookup y.1 == some .local || scope.names.lookup y.1 == some .cell) = true) (hnd : ((cellsFrom 0 scope.names []).map (·.1)).Nodup)
    (h : ∀ q : Cx, ∀ cells : List (Addr × Obj), Below q.A₀ q.base (envX q.cn q.cs q.L q.a q.ccd q.cl :: q.outer) q.g → Fr q.g q.L' q.s.heap (bindL (envOfC qual scope q.L' f cdv).kindOf binds fun _ => none) → News q.g q.L' q.s.heap (cells ++ mu) → CellsAre (bindC (envOfC qual scope q.L' f cdv).kindOf binds fun _ => none) (cellsFrom (q.L' + 1) scope.names []) cells →
      (hd.heap_1 w.params).In q.g → Top view lv q.mean q.mg q.mb q.g → q.dp + d < recursionLimit → q.un + 8 * d < cLine → P q.g →
      wpAny (model PySem.Challenge.rw_pq1305_01.row.prog w) ((ktrTop q.dp q.un q.gd q.cn q.cs q.L q.a q.ccd q.cl q.outer).deeper (envOfC qual scope q.L' f cdv)) (execs body (envOfC qual scope q.L' f cdv)) (DoneM q.g q.L' q.s R) (fun _ _ => False) q.s)
    (hst : mu = []) (hd1 : 0 < d) (hco : scope.isCoroutine = false) (hgen : scope.isGenerator = false) (hk : scope.kind = .function) : CtrM w f d args mu P R :=
  CtrM.bodyC hP ho hcd hbind hkind hnd (fun mean mg mb dp un gd cn cs L a ccd cl outer A₀ base g L' cells s => h ⟨mean, mg, mb, dp, un, gd, cn, cs, L, a, ccd, cl, outer, A₀, base, g, L', s⟩ cells) hst hd1 hco hgen hk
def TestEnd (h₀ : Heap) (L : Addr) (m : Str → Option Value) (news : List (Addr × Obj)) (s : Shared) (b : Bool) (ok : Bool) (s' : Shared) : Prop :=
  ok = b ∧ ∃ h' tk', s' = { s with heap := h', toks := tk' } ∧ Fr h₀ L h' m ∧ News h₀ L h' news
theorem TestEnd.mk {h₀ h' : Heap} {L : Addr} {m : Str → Option Value} {news : List (Addr × Obj)} {s : Shared} {b ok : Bool} {tk' : Nat} (F : Fr h₀ L h' m) (N : News h₀ L h' news) (e : ok = b) : TestEnd h₀ L m news s b ok { s with heap := h', toks := tk' } := ⟨e, h', tk', rfl, F, N⟩
def ElemEnd (h₀ : Heap) (L : Addr) (m : Str → Option Value) (news : List (Addr × Obj)) (s : Shared) (R : Value → Prop) (y : Value) (s' : Shared) : Prop :=
  R y ∧ ∃ h' tk', s' = { s with heap := h', toks := tk' } ∧ Fr h₀ L h' m ∧ News h₀ L h' news
theorem ElemEnd.mk {h₀ h' : Heap} {L : Addr} {m : Str → Option Value} {news : List (Addr × Obj)} {s : Shared} {R : Value → Prop} {y : Value} {tk' : Nat} (F : Fr h₀ L h' m) (N : News h₀ L h' news) (e : R y) : ElemEnd h₀ L m news s R y { s with heap := h', toks := tk' } := ⟨e, h', tk', rfl, F, N⟩
section
variable {prog : Program} {w : World} {A : Around} {h₀ : Heap} {L : Addr} {m : Str → Option Value} {env : Env} {ct elt : PySem.Expr} {x : Str} {scope : Scope} {cl : List (Str × Addr)} {s : Shared} {S : List (Addr × Obj) → Prop} {P : Nat → Value → Prop} {Fin : List Value → List (Addr × Obj) → Prop} {news : List (Addr × Obj)}
/-- a comprehension with one test, over ints: the items that pass -/
theorem restT {n : Nat} {ks : List Int} (p : Int → Bool) (hks : ks.length = n) (hP : ∀ i v, i < n → P i v → ∃ k t, ks[i]? = some k ∧ v = .int k t) (hS : S news)
    (test : ∀ k t I oI C oC D m₂ ys h tk (E' : Value → Shared → Prop), k ∈ ks → LCg.NsObj oC m₂ → m₂ x = some (.int k t) → Fr h₀ L h m → News h₀ L h ((I, oI) :: (C, oC) :: (D, LCg.lst ys) :: news) → LCg.Off3 I C D news → ((@Ne Nat I C) ∧ (@Ne Nat I D) ∧ (@Ne Nat C D)) →
      wpAny (model prog w) A (isTrue ct (compEnvC scope cl C env) (eval ct (compEnvC scope cl C env))) (TestEnd h₀ L m ((I, oI) :: (C, oC) :: (D, LCg.lst ys) :: news) { s with heap := h, toks := tk } (p k)) E' { s with heap := h, toks := tk })
    (elem : ∀ k t I oI C oC D m₂ ys h tk (E' : Value → Shared → Prop), k ∈ ks → LCg.NsObj oC m₂ → m₂ x = some (.int k t) → Fr h₀ L h m → News h₀ L h ((I, oI) :: (C, oC) :: (D, LCg.lst ys) :: news) → LCg.Off3 I C D news → ((@Ne Nat I C) ∧ (@Ne Nat I D) ∧ (@Ne Nat C D)) →
      wpAny (model prog w) A (eval elt (compEnvC scope cl C env)) (ElemEnd h₀ L m ((I, oI) :: (C, oC) :: (D, LCg.lst ys) :: news) { s with heap := h, toks := tk } (fun y => ∃ t, y = .int k t)) E' { s with heap := h, toks := tk })
    (fin : ∀ ys, IntsAre ys (ks.filter p) → Fin ys news) : LCt.CompRestT prog w A h₀ L m env ct elt x scope cl s S P Fin n 0 [] news := by
  have key : ∀ (j i : Nat) (ys : List Value), i + j = n → IntsAre ys ((ks.take i).filter p) → LCt.CompRestT prog w A h₀ L m env ct elt x scope cl s S P Fin j i ys news := by
    intro j
    induction j with
    | zero =>
      intro i ys hi hy
      have e : i = ks.length := by lia
      subst e
      rw [List.take_length] at hy
      exact LCt.CompRestT.zero (fin ys hy)
    | succ j ih =>
      intro i ys hi hy
      refine LCt.CompRestT.succ ?_
      intro v I oI C oC D m₂ h tk E' hv hC hx F N off ne
      obtain ⟨k, t, hk, hv'⟩ := hP i v (by lia) hv
      rw [hv'] at hx
      have hmem := List.mem_of_getElem? hk
      have htake : (ks.take (i + 1)).filter p = (ks.take i).filter p ++ (if p k = true then [k] else []) := by
        rw [List.take_add_one, hk, List.filter_append]
        by_cases hp : p k = true
        · simp [hp]
        · simp [hp]
      refine wpAny_mono (test k t I oI C oC D m₂ ys h tk E' hmem hC hx F N off ne) (fun ok s₂ hq => ?_) fun _ _ e => e
      obtain ⟨hok, h', tk', e, F', N'⟩ := hq
      subst e
      by_cases hp : p k = true
      · rw [hok, if_pos hp]
        refine wpAny_mono (elem k t I oI C oC D m₂ ys h' tk' E' hmem hC hx F' N' off ne) (fun y s₃ hq => ?_) fun _ _ e => e
        obtain ⟨⟨t', hy'⟩, h'', tk'', e, F'', N''⟩ := hq
        subst e
        refine ⟨h'', tk'', news, rfl, F'', N'', off, hS, ?_⟩
        subst hy'
        refine ih (i + 1) _ (by lia) ?_
        rw [htake, if_pos hp]
        exact IntsAre.append hy (.cons k t' .nil)
      · rw [hok, if_neg hp]
        refine ⟨h', tk', news, rfl, F', N', off, hS, ?_⟩
        refine ih (i + 1) _ (by lia) ?_
        rw [htake, if_neg hp, List.append_nil]
        exact hy
  exact key n 0 [] (by lia) (by simp only [List.take_zero, List.filter_nil]; exact .nil)
end
theorem range_items (a : Int) (n : Nat) : ∀ i v, i < n → (∃ t, v = Value.int (a + (i : Int)) t) → ∃ k t, (rangeKs a n)[i]? = some k ∧ v = .int k t := fun i v hi hv => by
  obtain ⟨t, e⟩ := hv
  exact ⟨a + (i : Int), t, by simp [rangeKs, hi], e⟩
local macro_rules | `(tactic| walk_at "eval ListComp") => `(tactic| k_extra "@eval ListComp")
local macro_rules | `(tactic| walk_at "exec Assign cons ListComp") => `(tactic| k_extra "@exec Assign cons ListComp")
local macro_rules | `(tactic| walk_at "binaryOp Add ref ref") => `(tactic| k_extra "@binaryOp Add ref ref")
local macro_rules | `(tactic| walk_at "CompSrcT") => `(tactic| k_extra "@CompSrcT")
local macro_rules | `(tactic| walk_at "CompSrc") => `(tactic| k_extra "@CompSrc")
def askd (D : Db) (tx : List Int) (leg : Bool) : List Int := (rangeKs 0 (tx.length + 1)).filter (fun i => brk D tx i leg)

/-- a new list of ints -/
def IntNew (xs : List Int) (v : Value) (mu : List (Addr × Obj)) : Prop := ∃ a vs n, v = .ref a ∧ mu = [(a, { cls := .type "list", data := .seq (List.toArray vs) n })] ∧ IntsAre vs xs
theorem c_asked : ∀ (w : World) (d : Addr) (D : Db) (ta : Addr) (vs : List Value) (tx : List Int) (leg : Bool), (Txt vs tx) → CtrM w 101 14 [.ref ta, .ref d, .bool leg] [] (TextAt w d D ta vs) (IntNew (askd D tx leg)) := by
  intro w d D ta vs tx leg hT
  k_dflt (refine' CtrM.bodyCX TextAt.mono (binds := [(Str.ofString "text", .ref ta), (Str.ofString "data", .ref d), (Str.ofString "is_legacy", .bool leg)]) ?ho ?hcd ?hbind ?hkind ?hnd ?h rfl ?hd1 ?hco ?hgen ?hk; (case ho => k_is); (case hcd => k_is); (case hbind => first | exact fun _ _ => BindsTo.of_eq rfl | exact fun _ X' => binds_K X' rfl (by k_is) rfl rfl rfl); (case hkind => exact rfl); (case hnd => decide +kernel); (case hd1 => decide); (case hco => exact rfl); (case hgen => exact rfl); (case hk => exact rfl))
  intro kx
  revert hT
  revert w d D ta vs tx leg kx
  refine seal8 (dW, default, ⟨fun _ => default, fun _ => default, fun _ => false⟩, default, default, default, default, dCx) ?_
  generalize sl8_0 _ _ = w, sl8_1 _ _ = d, sl8_2 _ _ = D, sl8_3 _ _ = ta, sl8_4 _ _ = vs, sl8_5 _ _ = tx, sl8_6 _ _ = leg, sl8_7 _ _ = kx
  intro hT
  w_top off
  intro cells B F N Y X T hdp hun hP
  simp only [List.append_nil] at N
  have _ : Dm := Dm.mk
  have _ : Rim := Rim.mk
  k_with_none
  k_with "@call ref" => ((k_here; (with_reducible show wpAny _ _ (call (Value.ref 95) _) _ _ _); k_dflt (refine' Ctr.useV (c_break _ _ _ _ _ _ _ _ _ (by assumption) (by lia) (by lia)) ?k1_q9 ?k2_q9 ?k3_q9 ?k4_q9 ?k5_q9 ?k6_q9 ?k7_q9 ?k8_q9 ?k9_q9 ?_; (case k1_q9 => k_asm); (case k2_q9 => k_asm); (case k3_q9 => k_asm); (case k4_q9 => k_asm); (case k5_q9 => k_asm); (case k6_q9 => first | exact rfl | assumption); (case k7_q9 => exact TextAt.mono _ _ (Fr.keep (by k_asm)) (by assumption)); (case k8_q9 => ktr_room); (case k9_q9 => ktr_units)); intro h9 tk9 st9 F9 N9; (try k_sweep); (try k_fold)); (all_goals (try ((with_reducible show wpAny _ _ _ _ _ _); (try revert h9); (try revert tk9); (try revert st9); (try revert F9); (try revert N9); intros))))
  k_with "@eval ListComp" => ((k_here; k_dflt (first
      | refine LCt.ListComp_T (F₀ := by k_asm) (by with_unfolding_all rfl) (by decide) (by rfl) (by decide) (by rfl) ?_
      | refine LCg.ListComp_U (F₀ := by k_asm) (by with_unfolding_all rfl) (by decide) (by rfl) (by decide) (by rfl) ?_)))
  k_with "@CompSrcT" => ((k_here; k_extra "src"))
  k_with "k0" => (k_here; (with_reducible show wpAny _ _ (callWith _ (Value.ref _) _ (backTo _ (starEach [] _)) []) _ _ _); k_dflt (refine' callWith_K0 ?k1_q9 ?k2_q9 ?_; (case k1_q9 => first | with_reducible assumption | exact Frag.In.keeps (by with_reducible assumption) (Fr.keep (by with_reducible assumption))); (case k2_q9 => k_is); k_whole))
  k_with "fold" => (k_fold; (with_reducible rename Dm => d9); revert d9; revert ek; revert qk; intro qk ek _)
  k_with "seal0" => k_extra "seal"
  k_with "seal" =>
    (with_reducible show wpAny _ _ (execs (_ :: _) _) _ _ _)
    (try k_extra "preseal")
    (fail_if_success (have y9 := ‹_›; (with_reducible have y8 : Rim := y9)))
    (repeat ((fail_if_success (have y9 := ‹_›; (with_reducible have y8 : Rim := y9))); first | ((fail_if_success (have y9 := ‹_›; have y8 : (_ : Prop) := y9)); clear (‹_›)) | revert (‹_›)))
    (repeat (first
      | ((with_reducible refine seal2 dHT ?_); (generalize sl2_0 _ _ = z8, sl2_1 _ _ = z7))
      | ((with_reducible refine seal1 dHp ?_); (generalize eps _ _ = z8))
      | ((with_reducible refine seal1 (0 : Nat) ?_); (generalize eps _ _ = z8))
      | ((with_reducible refine seal1 default ?_); (generalize eps _ _ = z8))
      | (with_reducible intro _)))
    ((with_reducible rename Rim => m9); revert m9; intro _)

  k_cells Y
  k_extra "seal0"
  (with_reducible rename News _ _ _ _ => N)
  (with_reducible rename Fr _ _ _ _ => F)
  obtain ⟨hi, hc, hl⟩ := id hT
  have hPT := hP
  obtain ⟨hD, hL⟩ := hP
  have hlen := hi.length
  k_with "src" =>
    k_dflt (refine LCt.CompSrcT.range (n := tx.length + 1) (by rfl) (by k_asm) (by k_asm) (by assumption) (small_one (by lia) (by lia) (by lia) (by lia)) ((rangeSize_nat _ _).trans (by lia)) (by rw [PySem.sizeLine_eq]; lia) ?_)
    intro g'
    refine restT (ks := rangeKs 0 (tx.length + 1)) (fun i => brk D tx i leg) (rangeKs_length _ _) (range_items 0 _) trivial (fun k t I oI C oC D m₂ ys h tk E' hk hC hx F N off ne => ?_) (fun k t I oI C oC D m₂ ys h tk E' hk hC hx F N off ne => ?_) (fun ys hys => ?_)
    obtain ⟨hk0, hk1⟩ := mem_rangeKs hk
  ((try ((with_reducible rename Rim => m9); revert m9; intro _)); k_steps)
  all_goals (try dsimp only)
  all_goals (try exact TestEnd.mk (by assumption) (by assumption) rfl)
  all_goals (try exact ElemEnd.mk (by assumption) (by assumption) ⟨_, rfl⟩)
  all_goals exact DoneM.mk (mu' := [(_, LCg.lst _)]) (by assumption) (by assumption) (List.forall_mem_cons.mpr ⟨by k_mem, List.forall_mem_nil _⟩) ⟨_, _, _, rfl, rfl, by assumption⟩
theorem compLoop_E {prog : Program} {w : World} {A : Around} {s : Shared} {elt ct target iter : PySem.Expr} {scope : Scope} {pos : Pos} {it acc : Value} {env : Env} {R : Result → Shared → Prop} (I : Nat → Shared → Prop)
    (turn : ∀ n s, I n s → wpAny (model prog w) A (pyNext it) (fun r s₁ => match r with
      | none => R (.ok .next) s₁
      | some v => wpAny (model prog w) A (letOwnedTupleGo target it v) (fun _ s₀ => wpAny (model prog w) A (assign target env v) (fun _ s₂ =>
          wpAny (model prog w) A (isTrue ct env (eval ct env)) (fun ok s₃ => if ok = true then
            wpAny (model prog w) A (eval elt env) (fun x s₄ => wpAny (model prog w) A (call (.builtin "list.append") [acc, x]) (fun _ s₅ => ∃ m, m < n ∧ I m s₅) (fun _ _ => False) s₄) (fun _ _ => False) s₃
            else ∃ m, m < n ∧ I m s₃) (fun _ _ => False) s₂) (fun _ _ => False) s₀) (fun _ _ => False) s₁) (fun _ _ => False) s)
    (n : Nat) (h : I n s) : codeAny (model prog w) A (.compLoop (.ListComp elt [⟨target, iter, [ct], 0⟩] scope pos) 0 it acc env) R s := by
  refine codeAny_loop rfl I (fun n s hI => ?_) n h
  show wpAny _ A ((compTurn (.ListComp elt [⟨target, iter, [ct], 0⟩] scope pos) 0 it acc env).onRaise (fun x => do noteFrame x env; theTreesLotGoes x)) _ _ s
  refine wpAny_noted ?_
  rw [compTurn_list]
  refine wpAny_bind (wpAny_standAt (wpAny_bind (wpAny_mono (turn n s hI) (fun r s₁ h₁ => ?_) fun _ _ h' => h'.elim)))
  cases r with
  | none => exact wpAny_pure h₁
  | some v =>
    refine wpAny_bind (wpAny_mono h₁ (fun _ s₀ h₀' => ?_) fun _ _ h' => h'.elim)
    refine wpAny_bind (wpAny_mono h₀' (fun _ s₂ h₂ => ?_) fun _ _ h' => h'.elim)
    refine wpAny_bind (wpAny_mono (wpAny_tests_one h₂) (fun ok s₃ h₃ => ?_) fun _ _ h' => h'.elim)
    cases ok with
    | true =>
      simp only [if_true] at h₃ ⊢
      exact wpAny_bind (wpAny_bind (wpAny_mono h₃ (fun x s₄ h₄ => wpAny_bind (wpAny_mono h₄ (fun _ s₅ h₅ => wpAny_pure (wpAny_pure ⟨rfl, h₅⟩)) fun _ _ h' => h'.elim)) fun _ _ h' => h'.elim))
    | false =>
      simp only [Bool.false_eq_true, if_false] at h₃ ⊢
      exact wpAny_pure ⟨rfl, h₃⟩
/-- a turn's end: the iterator's two objects, the block's names, the list stand; what the turns change stands at the new state -/
inductive TurnE {σ : Type} (h₀ : Heap) (L : Addr) (m : Str → Option Value) (s : Shared) (hd : List (Addr × Obj)) (led : σ → List (Addr × Obj)) (K : σ → Prop) (s' : Shared) : Prop
  | mk' (c' : σ) (h' : Heap) (tk' : Nat) (q1 : s' = { s with heap := h', toks := tk' }) (q2 : Fr h₀ L h' m) (q3 : News h₀ L h' (hd ++ led c')) (q4 : K c') : TurnE h₀ L m s hd led K s'
theorem TurnE.mk {σ : Type} {h₀ h' : Heap} {L : Addr} {m : Str → Option Value} {s : Shared} {hd mu : List (Addr × Obj)} {led : σ → List (Addr × Obj)} {K : σ → Prop} {tk' : Nat} (c' : σ) (F : Fr h₀ L h' m) (N : News h₀ L h' mu) (hs : ∀ p ∈ hd ++ led c', p ∈ mu) (k : K c') :
    TurnE h₀ L m s hd led K { s with heap := h', toks := tk' } := ⟨c', h', tk', rfl, F, fun p hp => N p (hs p hp), k⟩

inductive SrcE {σ : Type} (prog : Program) (w : World) (A : Around) (h₀ : Heap) (L : Addr) (m : Str → Option Value) (env : Env) (ct elt : PySem.Expr) (x x₂ : Str) (scope : Scope) (cl : List (Str × Addr)) (l : Addr) (items : Array Value) (led : σ → List (Addr × Obj)) (J : Nat → List Value → σ → Prop) (mE : Addr → Str → Option Value) (QQ : Addr → Shared → Prop) (xv : Value) (s₁ : Shared) : Prop
  | mk (e it : Addr) (c₀ : σ) (hxv : xv = .ref e) (q1 : e ≠ it) (q2 : l ≠ e) (q3 : l ≠ it) (q4 : IsEnum s₁.heap e it 0 .none) (q5 : s₁.heap.IsListIter it l 0) (q6 : h₀.IsList l items) (q7 : items.size ≤ sizeLine) (q8 : Fr h₀ L s₁.heap m) (q9 : News h₀ L s₁.heap (led c₀)) (q10 : e ≠ L) (q11 : it ≠ L) (q12 : h₀.get? e = none) (q13 : h₀.get? it = none) (q14 : (∀ p ∈ led c₀, @LT.lt Nat _ p.1 it) ∧ @LT.lt Nat _ it e)
    (q15 : ∀ c, (led c).map (·.1) = (led c₀).map (·.1)) (q16 : J 0 [] c₀)
    (q17 : ∀ i v t₁ ys c oe oit C oC D m₂ h tk, items[i]? = some v → J i ys c → LCg.NsObj oC m₂ → m₂ x = some (.int i t₁) → m₂ x₂ = some v → Fr h₀ L h m → News h₀ L h ([(e, oe), (it, oit), (C, oC), (D, LCg.lst ys)] ++ led c) →
      (∀ p ∈ led c, @LT.lt Nat _ p.1 it) → @LT.lt Nat _ it e → @LT.lt Nat _ e D → @LT.lt Nat _ D C →
      wpAny (model prog w) A (isTrue ct (compEnvC scope cl C env) (eval ct (compEnvC scope cl C env))) (fun ok s' => if ok = true then
        wpAny (model prog w) A (eval elt (compEnvC scope cl C env)) (fun y => TurnE h₀ L m { s₁ with heap := h, toks := tk } [(e, oe), (it, oit), (C, oC), (D, LCg.lst ys)] led (J (i + 1) (ys ++ [y]))) (fun _ _ => False) s'
        else TurnE h₀ L m { s₁ with heap := h, toks := tk } [(e, oe), (it, oit), (C, oC), (D, LCg.lst ys)] led (J (i + 1) ys) s') (fun _ _ => False) { s₁ with heap := h, toks := tk })
    (q18 : ∀ c ys D h tk, J items.size ys c → Fr h₀ L h (mE D) → News h₀ L h ((D, LCg.lst ys) :: led c) → (∀ p ∈ led c, @Ne Nat p.1 D) → QQ D { s₁ with heap := h, toks := tk }) :
    SrcE prog w A h₀ L m env ct elt x x₂ scope cl l items led J mE QQ xv s₁

section
variable {prog : Program} {w : World} {A : Around} {E : Value → Shared → Prop} {s : Shared} {h₀ : Heap} {L : Addr} {m : Str → Option Value} {env : Env}
theorem block_E {σ : Type} {ct elt iter : PySem.Expr} {x x₂ : Str} {px px₂ tp : Pos} {kk : Nat} {scope : Scope} {cl : List (Str × Addr)} {pos : Pos} {l : Addr} {items : Array Value} {led : σ → List (Addr × Obj)} {J : Nat → List Value → σ → Prop} {mE : Addr → Str → Option Value} {QQ : Addr → Shared → Prop} {xv : Value} {s₂ : Shared} {RR : Value → Addr → Result → Shared → Prop}
    (hh : A.handled = none) (hcell : ∀ y ∈ scope.names, y.2 ≠ .cell) (hkind : scope.kind = .function) (hx : scope.names.lookup x = some .local) (hx₂ : scope.names.lookup x₂ = some .local) (hxx : x ≠ x₂)
    (h₁ : SrcE prog w A h₀ L m env ct elt x x₂ scope cl l items led J mE QQ xv s₂)
    (hRR : ∀ D C h tk m' c ys, J items.size ys c → Fr h₀ L h m → News h₀ L h ((D, LCg.lst ys) :: led c) → (∀ p ∈ led c, @Ne Nat p.1 D) → h.Ns C m' → h₀.get? C = none → C ≠ L → C ≠ D → (∀ p ∈ led c, p.1 ≠ C) →
      (∀ h tk, Fr h₀ L h (mE D) → News h₀ L h ((D, LCg.lst ys) :: led c) → QQ D { s₂ with heap := h, toks := tk }) → RR (.ref D) C (.ok .next) { s₂ with heap := h, toks := tk }) :
    wpAny (model prog w) A (pyIter xv) (fun it s₂ => wpAny (model prog w) A (newList []) (fun acc s₃ => wpAny (model prog w) A (newFunctionEnv scope env.globals cl [] env.qual none .none (some env)) (fun cenv s₄ =>
      codeAny (model prog w) A (.compStart (.ListComp elt [⟨.Tuple [.Name x px, .Name x₂ px₂] kk tp, iter, [ct], 0⟩] scope pos) 0 it acc { cenv with scope := relabel scope env }) (RR acc cenv.locals) s₄) E s₃) E s₂) E s₂ := by
  obtain ⟨e, it, c₀, rfl, hei, hle, hli, he, hit, hl₀, hsz, F, N, heL, hiL, he₀, hi₀, ⟨hoff0, hie⟩, hadr, hJ, turn, fin⟩ := h₁
  have hoff : ∀ p ∈ led c₀, p.1 ≠ e ∧ p.1 ≠ it := fun p hp => ⟨Nat.ne_of_lt (Nat.lt_trans (hoff0 p hp) hie), Nat.ne_of_lt (hoff0 p hp)⟩
  have W := WalksT.enumerate (prog := prog) (w := w) hh e it l hei hle hli items
  have hl₂ : s₂.heap.IsList l items := stays_list F.keep hl₀
  refine W.self 0 _ _ _ ⟨⟨_, he⟩, hit, hl₂⟩ ?_
  refine wpAny_newObj_type (wpAny_newFunctionEnv hcell (by intro y hy; simp at hy) (fun h₁ hns₁ hsb₁ => ?_) hkind)
  dsimp only at hns₁ hsb₁ ⊢
  generalize hH2 : s₂.heap.push { cls := .type "list", dict := none, data := .seq ([] : List Value).toArray } = H2 at hns₁ hsb₁ ⊢
  have hC : H2.objs.size = s₂.heap.objs.size + 1 := by rw [← hH2, Heap.size_push]
  generalize hDg : s₂.heap.objs.size = D at hC ⊢
  generalize hCg : H2.objs.size = C at hC hns₁ hsb₁ ⊢
  have lowD : ∀ b o, s₂.heap.get? b = some o → @LT.lt Nat _ b D := fun b o q => hDg ▸ Heap.lt_size q
  have hDC : @LT.lt Nat _ D C := by rw [hC]; exact Nat.lt_succ_self _
  have old : ∀ b o, s₂.heap.get? b = some o → h₁.get? b = some o := fun b o q => hsb₁.extBut b o (Nat.ne_of_lt (Nat.lt_trans (lowD b o q) hDC)) (Heap.get?_push_of_some _ (hH2 ▸ Heap.get?_push_of_some _ q))
  have hacc : h₁.get? D = some (LCg.lst []) := hsb₁.extBut _ _ (Nat.ne_of_lt hDC) (Heap.get?_push_of_some _ (hH2 ▸ hDg ▸ Heap.get?_push_size _ rfl))
  have fresh₀ : ∀ a, @LE.le Nat _ D a → h₀.get? a = none := fun a ha => by
    cases q : h₀.get? a with
    | none => rfl
    | some o => exact absurd (lowD a o (F.keep a o q)) (Nat.not_lt.mpr ha)
  have hD₀ : h₀.get? D = none := fresh₀ _ (Nat.le_refl _)
  have hC₀ : h₀.get? C = none := fresh₀ _ (Nat.le_of_lt hDC)
  obtain ⟨oL, _, _, hoL, _⟩ := F.ns
  have hLD : @LT.lt Nat _ L D := lowD _ _ hoL
  have heD : @LT.lt Nat _ e D := lowD _ _ he
  have hiD : @LT.lt Nat _ it D := by obtain ⟨o, q, _⟩ := hit; exact lowD _ _ q
  have offlt : ∀ c, ∀ p ∈ led c, @LT.lt Nat _ p.1 it := fun c p hp => by
    have hm : p.1 ∈ (led c₀).map (·.1) := hadr c ▸ List.mem_map_of_mem hp
    obtain ⟨q, hq, hqe⟩ := List.mem_map.mp hm
    exact hqe ▸ hoff0 q hq
  have hledD : ∀ c, ∀ p ∈ led c, @LT.lt Nat _ p.1 D ∧ p.1 ≠ e ∧ p.1 ≠ it := fun c p hp => by
    have hm : p.1 ∈ (led c₀).map (·.1) := hadr c ▸ List.mem_map_of_mem hp
    obtain ⟨q, hq, hqe⟩ := List.mem_map.mp hm
    exact ⟨hqe ▸ lowD _ _ (N q hq).1, hqe ▸ hoff q hq⟩
  have hlD : @LT.lt Nat _ l D := by obtain ⟨o, q, _⟩ := hl₂; exact lowD _ _ q
  have loop : ∀ s₃ : Shared, s₃ = { s₂ with heap := h₁, toks := s₂.toks + ([] : List (Str × Value)).length } →
      codeAny (model prog w) A (.compLoop (.ListComp elt [⟨.Tuple [.Name x px, .Name x₂ px₂] kk tp, iter, [ct], 0⟩] scope pos) 0 (.ref e) (.ref D) (compEnvC scope cl C env)) (RR (.ref D) C) s₃ := by
    rintro s₃ rfl
    refine compLoop_E (fun k s' => ∃ h' tk i ys m' c, s' = { s₂ with heap := h', toks := tk } ∧ i ≤ items.size ∧ k = items.size + 1 - i ∧ ys.length ≤ i ∧ ((∃ ol, IsEnum h' e it i ol) ∧ h'.IsListIter it l i ∧ h'.IsList l items) ∧
      Fr h₀ L h' m ∧ h'.Ns C m' ∧ News h₀ L h' ((D, LCg.lst ys) :: led c) ∧ J i ys c) ?_ (items.size + 1)
      ⟨h₁, _, 0, [], _, c₀, rfl, Nat.zero_le _, rfl, Nat.le_refl _, ⟨⟨_, old _ _ he⟩, hit.at fun o q => old _ _ q, stays_list old hl₂⟩, F.keeps old, hns₁, fun p hp => ?_, hJ⟩
    · rintro k s' ⟨h', tk, i, ys, m', c, rfl, hi, rfl, hyl, hst', F', hn', N', hJ'⟩
      by_cases hlt : i < items.size
      · refine W.item i _ _ _ hlt hst' fun T vals h₂ tk₂ hPt hTge hT mid hk₂ => ?_
        obtain ⟨t₁, v, hv, rfl⟩ := hPt
        refine W.go _ _ _ i T _ _ _ mid fun h₃ hst₃ hk₃ => ?_
        have hT₃ : h₃.IsTuple T #[.int i t₁, v] := by
          obtain ⟨o, q, r⟩ := hT
          exact ⟨o, hk₃ _ _ (W.apart _ _ _ mid) q, r⟩
        have keep₃ : ∀ b o, b ≠ e → b ≠ it → h'.get? b = some o → h₃.get? b = some o := fun b o h1 h2 q => by
          have hb : b ∉ [e, it] := by simp [h1, h2]
          exact hk₃ b o hb (hk₂ b o hb q)
        have hCe : C ≠ e := fun q => by rw [q] at hDC; exact absurd hDC (Nat.lt_asymm heD)
        have hCi : C ≠ it := fun q => by rw [q] at hDC; exact absurd hDC (Nat.lt_asymm hiD)
        have hn₃ : h₃.Ns C m' := hn'.at' fun o q => keep₃ C o hCe hCi q
        refine kcp_assign hh hT₃ (lookup_relabel_local hx) (lookup_relabel_local hx₂) (by simp [compEnvC, relabel, hkind]) hn₃ fun h₄ tk₄ hn₄ hk₄ => ?_
        have keep₄ : ∀ b o, b ≠ e → b ≠ it → b ≠ C → h'.get? b = some o → h₄.get? b = some o := fun b o h1 h2 h3 q => hk₄ b o h3 (keep₃ b o h1 h2 q)
        have hst₄ := W.frame (i + 1) h₃ h₄ hst₃ fun b hb o q => hk₄ b o (fun hc => by
          have hc' : b = C := hc
          rcases List.mem_cons.mp hb with r | hb
          · exact hCe (hc'.symm.trans r)
          · rcases List.mem_cons.mp hb with r | hb
            · exact hCi (hc'.symm.trans r)
            · have r := List.mem_singleton.mp hb
              have := hlD
              rw [← r, hc'] at this
              exact absurd this (Nat.lt_asymm hDC)) q
        obtain ⟨⟨ol, he₄⟩, hit₄, hl₄⟩ := id hst₄
        obtain ⟨oit, hoit, _⟩ := id hit₄
        obtain ⟨oe, hoe⟩ : ∃ o, h₄.get? e = some o := ⟨_, he₄⟩
        obtain ⟨oC, heC, hoC⟩ := LCg.ns_obj hn₄
        have hLe : L ≠ e := Ne.symm heL
        have hLi : L ≠ it := Ne.symm hiL
        have hLC : L ≠ C := Nat.ne_of_lt (Nat.lt_trans hLD hDC)
        have F₄ : Fr h₀ L h₄ m := ⟨F'.ns.at' fun o q => keep₄ L o hLe hLi hLC q, fun b o q => keep₄ b o (fun r => by rw [r, he₀] at q; cases q) (fun r => by rw [r, hi₀] at q; cases q) (fun r => by rw [r, hC₀] at q; cases q) (F'.keep b o q), F'.above⟩
        have offc : ∀ c, ∀ p ∈ led c, @Ne Nat p.1 e ∧ @Ne Nat p.1 it ∧ @Ne Nat p.1 C ∧ @Ne Nat p.1 D := fun c p hp =>
          ⟨(hledD c p hp).2.1, (hledD c p hp).2.2, Nat.ne_of_lt (Nat.lt_trans (hledD c p hp).1 hDC), Nat.ne_of_lt (hledD c p hp).1⟩
        have N₄ : News h₀ L h₄ ([(e, oe), (it, oit), (C, oC), (D, LCg.lst ys)] ++ led c) := fun p hp => by
          rcases List.mem_append.mp hp with hp | hp
          · rcases List.mem_cons.mp hp with rfl | hp
            · exact ⟨hoe, heL, he₀⟩
            · rcases List.mem_cons.mp hp with rfl | hp
              · exact ⟨hoit, hiL, hi₀⟩
              · rcases List.mem_cons.mp hp with rfl | hp
                · exact ⟨heC, Ne.symm hLC, hC₀⟩
                · have r := List.mem_singleton.mp hp
                  subst r
                  have z := N' _ List.mem_cons_self
                  exact ⟨keep₄ D _ (Nat.ne_of_gt heD) (Nat.ne_of_gt hiD) (Nat.ne_of_lt hDC) z.1, z.2⟩
          · have z := N' p (List.mem_cons_of_mem _ hp)
            exact ⟨keep₄ _ _ (offc c p hp).1 (offc c p hp).2.1 (offc c p hp).2.2.1 z.1, z.2⟩
        have fin₅ : ∀ (ys' : List Value) (K : σ → Prop) s', TurnE h₀ L m { s₂ with heap := h₄, toks := tk₄ } ([(e, oe), (it, oit), (C, oC), (D, LCg.lst ys)]) led K s' →
            ∃ c' h₅ tk₅, s' = { s₂ with heap := h₅, toks := tk₅ } ∧ K c' ∧ Fr h₀ L h₅ m ∧ News h₀ L h₅ ((D, LCg.lst ys) :: led c') ∧ (∃ mm, h₅.Ns C mm) ∧ ((∃ ol, IsEnum h₅ e it (i + 1 : Nat) ol) ∧ h₅.IsListIter it l (i + 1) ∧ h₅.IsList l items) := by
          rintro ys' K s' ⟨c', h₅, tk₅, rfl, F₅, N₅, k₅⟩
          refine ⟨c', h₅, tk₅, rfl, k₅, F₅, fun p hp => ?_, ⟨_, hoC.ns (N₅ (C, oC) (by simp)).1⟩, W.frame (i + 1) h₄ h₅ hst₄ fun b hb o q => ?_⟩
          · rcases List.mem_cons.mp hp with rfl | hp
            · exact N₅ _ (by simp)
            · exact N₅ _ (List.mem_append_right _ hp)
          · rcases List.mem_cons.mp hb with rfl | hb
            · exact (N₅ (b, oe) (List.mem_append_left _ List.mem_cons_self)).1.trans (hoe.symm.trans q)
            · rcases List.mem_cons.mp hb with rfl | hb
              · have z := (N₅ (b, oit) (by simp)).1
                exact z.trans (hoit.symm.trans q)
              · have r := List.mem_singleton.mp hb
                subst r
                obtain ⟨ol, hol, _⟩ := id hl₀
                exact (F₅.keep _ _ hol).trans ((F₄.keep _ _ hol).symm.trans q)
        refine wpAny_mono (turn i v t₁ ys c oe oit C oC D _ h₄ tk₄ hv hJ' hoC (by simp [hxx]) (by simp) F₄ N₄ (offlt c) hie heD hDC) (fun ok s₅ h₅ => ?_) fun _ _ x => x
        cases ok with
        | true =>
          simp only [if_true] at h₅ ⊢
          refine wpAny_mono h₅ (fun y s₆ h₆ => ?_) fun _ _ x => x
          obtain ⟨c', h₇, tk₇, rfl, k₇, F₇, N₇, ⟨mm, hC₇⟩, hst₇⟩ := fin₅ ys _ _ h₆
          refine append_at (hsz := by show ys.toArray.size ≤ sizeLine; rw [List.size_toArray]; exact Nat.le_trans (Nat.le_trans hyl hi) hsz) (N₇ _ List.mem_cons_self).1 fun h₈ hs₈ hD₈ => ?_
          refine ⟨items.size + 1 - (i + 1), by lia, h₈, tk₇, i + 1, ys ++ [y], _, c', rfl, hlt, rfl, by rw [List.length_append, List.length_singleton]; exact Nat.succ_le_succ hyl, W.frame (i + 1) h₇ h₈ hst₇ fun b hb o q => hs₈.extBut b o (fun r => ?_) q, F₇.change hs₈ (Nat.ne_of_gt hLD) hD₀,
            hC₇.sameBut hs₈ (Nat.ne_of_gt hDC), fun p hp => ?_, k₇⟩
          · have r' : b = D := r
            rcases List.mem_cons.mp hb with q | hb
            · exact Nat.ne_of_lt heD (q.symm.trans r')
            · rcases List.mem_cons.mp hb with q | hb
              · exact Nat.ne_of_lt hiD (q.symm.trans r')
              · exact Nat.ne_of_lt hlD ((List.mem_singleton.mp hb).symm.trans r')
          · rcases List.mem_cons.mp hp with rfl | hp
            · exact ⟨hD₈.trans (congrArg some (LCg.lst_snoc ys y)), Nat.ne_of_gt hLD, hD₀⟩
            · have z := N₇ p (List.mem_cons_of_mem _ hp)
              exact ⟨hs₈.extBut _ _ (offc c' p hp).2.2.2 z.1, z.2⟩
        | false =>
          simp only [Bool.false_eq_true, if_false] at h₅ ⊢
          obtain ⟨c', h₇, tk₇, rfl, k₇, F₇, N₇, ⟨mm, hC₇⟩, hst₇⟩ := fin₅ ys _ _ h₅
          exact ⟨items.size + 1 - (i + 1), by lia, h₇, tk₇, i + 1, ys, _, c', rfl, hlt, rfl, Nat.le_succ_of_le hyl, hst₇, F₇, hC₇, N₇, k₇⟩
      · obtain rfl : i = items.size := Nat.le_antisymm hi (Nat.not_lt.mp hlt)
        refine W.done _ _ _ hst' fun h₂ tk₂ hk₂ => ?_
        have nb : ∀ b o, b ≠ e → b ≠ it → h'.get? b = some o → h₂.get? b = some o := fun b o h1 h2 q => hk₂ b o (by simp [h1, h2]) q
        have hLC : L ≠ C := Nat.ne_of_lt (Nat.lt_trans hLD hDC)
        have hCe : C ≠ e := fun r => by rw [r] at hDC; exact absurd hDC (Nat.lt_asymm heD)
        have hCi : C ≠ it := fun r => by rw [r] at hDC; exact absurd hDC (Nat.lt_asymm hiD)
        have F₂ : Fr h₀ L h₂ m := ⟨F'.ns.at' fun o q => nb L o (Ne.symm heL) (Ne.symm hiL) q, fun b o q => nb b o (fun r => by rw [r, he₀] at q; cases q) (fun r => by rw [r, hi₀] at q; cases q) (F'.keep b o q), F'.above⟩
        have N₂ : News h₀ L h₂ ((D, LCg.lst ys) :: led c) := fun p hp => by
          have z := N' p hp
          rcases List.mem_cons.mp hp with rfl | hp
          · exact ⟨nb _ _ (Nat.ne_of_gt heD) (Nat.ne_of_gt hiD) z.1, z.2⟩
          · have y := hledD c p hp
            exact ⟨nb _ _ y.2.1 y.2.2 z.1, z.2⟩
        have oD : ∀ p ∈ led c, @Ne Nat p.1 D := fun p hp => Nat.ne_of_lt (hledD c p hp).1
        exact hRR D C h₂ tk₂ m' c ys hJ' F₂ N₂ oD (hn'.at' fun o q => nb C o hCe hCi q) hC₀ (Ne.symm hLC) (Nat.ne_of_gt hDC) (fun p hp => Nat.ne_of_lt (Nat.lt_trans (hledD c p hp).1 hDC)) fun h tk F' N' => fin c ys D h tk hJ' F' N' oD
    · rcases List.mem_cons.mp hp with rfl | hp
      · exact ⟨hacc, Nat.ne_of_gt hLD, hD₀⟩
      · exact ⟨old _ _ (N p hp).1, (N p hp).2⟩
  exact codeAny_compStart_list (loop _ rfl) (W.self 0 _ _ _ ⟨⟨_, old _ _ he⟩, hit.at fun o q => old _ _ q, stays_list old hl₂⟩ (loop _ rfl))

theorem ListComp_E {σ : Type} {ct elt iter : PySem.Expr} {x x₂ : Str} {px px₂ tp : Pos} {kk : Nat} {scope : Scope} {cl : List (Str × Addr)} {pos : Pos} {l : Addr} {items : Array Value} (led : σ → List (Addr × Obj)) (J : Nat → List Value → σ → Prop) {Q : Value → Shared → Prop} (_F : Fr h₀ L s.heap m)
    (hh : A.handled = none) (hclos : closureFor scope env = pure cl) (hcell : ∀ y ∈ scope.names, y.2 ≠ .cell) (hkind : scope.kind = .function)
    (hnames : ∀ y ∈ scope.names, y.2 = .local → scope.names.lookup y.1 = some .local) (hx : scope.names.lookup x = some .local) (hx₂ : scope.names.lookup x₂ = some .local) (hxx : x ≠ x₂)
    (h : wpAny (model prog w) A (eval iter env) (SrcE prog w A h₀ L m env ct elt x x₂ scope cl l items led J (fun _ => m) (fun D => Q (.ref D))) E s)
    (hs : ∀ x, foldedSetIterable iter env x = pure x := by intro _; rfl) :
    wpAny (model prog w) A (eval (.ListComp elt [⟨.Tuple [.Name x px, .Name x₂ px₂] kk tp, iter, [ct], 0⟩] scope pos) env) Q E s := by
  rw [eval_ListComp]
  refine wpAny_comprehension_free (use := none) rfl hs hclos hkind hnames (wpAny_mono h (fun xv s₂ h₁ => ?_) fun _ _ e => e)
  refine block_E hh hcell hkind hx hx₂ hxx h₁ ?_
  intro D C h tk m' c ys hJ F N oD hn hC₀ hCL hCD oC fin
  refine ⟨m', hn, fun h₃ hs₃ => fin h₃ tk (F.change hs₃ hCL hC₀) fun p hp => ?_⟩
  have z := N p hp
  refine ⟨hs₃.extBut _ _ ?_ z.1, z.2⟩
  rcases List.mem_cons.mp hp with rfl | hp
  · exact Ne.symm hCD
  · exact oC p hp
theorem Assign_ListComp_E {σ : Type} {ct elt iter : PySem.Expr} {x x₂ y : Str} {px px₂ tp py : Pos} {kk : Nat} {scope : Scope} {cl : List (Str × Addr)} {pos spos : Pos} {l : Addr} {items : Array Value} (led : σ → List (Addr × Obj)) (J : Nat → List Value → σ → Prop) {Q : Flow → Shared → Prop} (_F : Fr h₀ L s.heap m) (hLe : env.locals = L)
    (hsw : swapsWith (.ListComp elt [⟨.Tuple [.Name x px, .Name x₂ px₂] kk tp, iter, [ct], 0⟩] scope pos) (some (.Name y py)) spos.line env = pure true)
    (hh : A.handled = none) (hclos : closureFor scope env = pure cl) (hcell : ∀ y ∈ scope.names, y.2 ≠ .cell) (hkind : scope.kind = .function)
    (hnames : ∀ y ∈ scope.names, y.2 = .local → scope.names.lookup y.1 = some .local) (hx : scope.names.lookup x = some .local) (hx₂ : scope.names.lookup x₂ = some .local) (hxx : x ≠ x₂)
    (hy : env.kindOf y = some .local) (hp : (env.scope.kind == .class || (env.scope.kind == .module && env.locals != env.globals)) = false)
    (h : wpAny (model prog w) A (eval iter env) (SrcE prog w A h₀ L m env ct elt x x₂ scope cl l items led J (fun D z => if z = y then some (.ref D) else m z) (fun _ => Q .next)) E s)
    (hs : ∀ x, foldedSetIterable iter env x = pure x := by intro _; rfl) :
    wpAny (model prog w) A (exec (.Assign [.Name y py] (.ListComp elt [⟨.Tuple [.Name x px, .Name x₂ px₂] kk tp, iter, [ct], 0⟩] scope pos) spos) env) Q E s := by
  subst hLe
  rw [exec_Assign_Name_used _ _ _ _ hsw]
  refine wpAny_bind (wpAny_standAt (wpAny_bind ?_))
  show wpAny _ A (do let _ ← comprehension (.ListComp elt [⟨.Tuple [.Name x px, .Name x₂ px₂] kk tp, iter, [ct], 0⟩] scope pos) scope env _ (newList []) false (eval iter env) (some (assign (.Name y py) env))) _ _ s
  refine wpAny_bind (wpAny_mono (wpAny_comprehension_free (use := some (assign (.Name y py) env)) (Q := fun _ s' => Q .next s') rfl hs hclos hkind hnames
    (wpAny_mono h (fun xv s₂ h₁ => ?_) fun _ _ e => e)) (fun _ s' hq => wpAny_pure (wpAny_pure hq)) fun _ _ e => e)
  refine block_E hh hcell hkind hx hx₂ hxx h₁ ?_
  intro D C h tk m' c ys hJ F N oD hn hC₀ hCL hCD oC fin
  show wpAny _ A (assign (.Name y py) env (.ref D)) _ _ _
  refine wpAny_assign_Name (wpAny_storeName_local hy F.ns (fun h₂ hn₂ hs₂ => ?_) hp)
  have hL₀ : h₀.get? env.locals = none := Heap.get?_none_of_le F.above
  have F₂ : Fr h₀ env.locals h₂ (fun z => if z = y then some (.ref D) else m z) := ⟨hn₂, fun b o q => hs₂.extBut b o (fun r => by rw [r, hL₀] at q; cases q) (F.keep b o q), F.above⟩
  refine ⟨m', hn.sameBut hs₂ hCL, fun h₃ hs₃ => fin h₃ _ (F₂.change hs₃ hCL hC₀) fun p hp => ?_⟩
  have z := N p hp
  refine ⟨hs₃.extBut _ _ ?_ (hs₂.extBut _ _ z.2.1 z.1), z.2⟩
  rcases List.mem_cons.mp hp with rfl | hp
  · exact Ne.symm hCD
  · exact oC p hp
end
theorem SrcE.intro {σ : Type} {prog : Program} {w : World} {A : Around} {h₀ h' : Heap} {L : Addr} {m : Str → Option Value} {env : Env} {ct elt : PySem.Expr} {x x₂ : Str} {scope : Scope} {cl : List (Str × Addr)} {l : Addr} {items : Array Value} {led : σ → List (Addr × Obj)} {J : Nat → List Value → σ → Prop} {mE : Addr → Str → Option Value} {QQ : Addr → Shared → Prop} {s : Shared} (c₀ : σ)
    (F : Fr h₀ L s.heap m) (N : News h₀ L s.heap (led c₀)) (hl : h₀.IsList l items) (hsz : items.size ≤ sizeLine) (he : IsEnum h' (s.heap.objs.size + 1) s.heap.objs.size 0 .none) (hit : h'.IsListIter s.heap.objs.size l 0) (hk : ∀ b o, s.heap.get? b = some o → h'.get? b = some o)
    (hadr : ∀ c, (led c).map (·.1) = (led c₀).map (·.1)) (hJ : J 0 [] c₀)
    (turn : ∀ (e it : Addr) i v t₁ ys c oe oit C oC D m₂ h tk, items[i]? = some v → J i ys c → LCg.NsObj oC m₂ → m₂ x = some (.int i t₁) → m₂ x₂ = some v → Fr h₀ L h m → News h₀ L h ([(e, oe), (it, oit), (C, oC), (D, LCg.lst ys)] ++ led c) →
      (∀ p ∈ led c, @LT.lt Nat _ p.1 it) → @LT.lt Nat _ it e → @LT.lt Nat _ e D → @LT.lt Nat _ D C →
      wpAny (model prog w) A (isTrue ct (compEnvC scope cl C env) (eval ct (compEnvC scope cl C env))) (fun ok s' => if ok = true then
        wpAny (model prog w) A (eval elt (compEnvC scope cl C env)) (fun y => TurnE h₀ L m { s with heap := h, toks := tk } [(e, oe), (it, oit), (C, oC), (D, LCg.lst ys)] led (J (i + 1) (ys ++ [y]))) (fun _ _ => False) s'
        else TurnE h₀ L m { s with heap := h, toks := tk } [(e, oe), (it, oit), (C, oC), (D, LCg.lst ys)] led (J (i + 1) ys) s') (fun _ _ => False) { s with heap := h, toks := tk })
    (fin : ∀ c ys D h tk, J items.size ys c → Fr h₀ L h (mE D) → News h₀ L h ((D, LCg.lst ys) :: led c) → (∀ p ∈ led c, @Ne Nat p.1 D) → QQ D { s with heap := h, toks := tk }) :
    SrcE prog w A h₀ L m env ct elt x x₂ scope cl l items led J mE QQ (.ref (s.heap.objs.size + 1)) { s with heap := h' } := by
  have fresh₀ : ∀ a, @LE.le Nat _ s.heap.objs.size a → h₀.get? a = none := fun a ha => by
    cases q : h₀.get? a with
    | none => rfl
    | some o => exact absurd (Heap.lt_size (F.keep a o q)) (Nat.not_lt.mpr ha)
  obtain ⟨oL, _, _, hoL, _⟩ := F.ns
  have hL := Heap.lt_size hoL
  have hll : @LT.lt Nat _ l s.heap.objs.size := by obtain ⟨o, q, _⟩ := hl; exact Heap.lt_size (F.keep _ _ q)
  exact ⟨s.heap.objs.size + 1, s.heap.objs.size, c₀, rfl, Nat.succ_ne_self _, Nat.ne_of_lt (Nat.lt_succ_of_lt hll), Nat.ne_of_lt hll, he, hit, hl, hsz, F.keeps hk, fun p hp => ⟨hk _ _ (N p hp).1, (N p hp).2⟩,
    Nat.ne_of_gt (Nat.lt_succ_of_lt hL), Nat.ne_of_gt hL, fresh₀ _ (Nat.le_succ _), fresh₀ _ (Nat.le_refl _), ⟨fun p hp => Heap.lt_size (N p hp).1, Nat.lt_succ_self _⟩, hadr, hJ,
    fun i v t₁ ys c => turn _ _ i v t₁ ys c, fin⟩
theorem news_join {h₀ h : Heap} {L : Addr} {mu news : List (Addr × Obj)} (N : News h₀ L h mu) (rest : ∀ p ∈ news, h.get? p.1 = some p.2 ∧ p.1 ≠ L ∧ h₀.get? p.1 = none) : News h₀ L h (mu ++ news) := fun p hp =>
  (List.mem_append.mp hp).elim (N p) (rest p)
local macro_rules | `(tactic| walk_at "SrcE") => `(tactic| k_extra "@SrcE")
local macro_rules | `(tactic| walk_at "call type:enumerate") => `(tactic| k_extra "@call type:enumerate")
def SS0 : SS := ⟨none, false, false, false, 0⟩
def runS (D : Db) (leg : Bool) : List Int → SS → Nat → List Int
  | [], _, _ => []
  | c :: r, S, i => (if S.told D leg c = true then [(i : Int)] else []) ++ runS D leg r (S.step D c) (i + 1)
def stepS (D : Db) (xs : List Int) (S : SS) : SS := xs.foldl (fun S c => S.step D c) S
def plcs (D : Db) (tx : List Int) (leg : Bool) : List Int := if tx = [] then [] else runS D leg tx SS0 0 ++ [(tx.length : Int)]

theorem runS_snoc {D : Db} {leg : Bool} {n : Int} : ∀ {xs : List Int} {S : SS} {k : Nat}, runS D leg (xs ++ [n]) S k = runS D leg xs S k ++ (if (stepS D xs S).told D leg n = true then [((k + xs.length : Nat) : Int)] else [])
  | [], S, k => by
    show (if S.told D leg n = true then [(k : Int)] else []) ++ [] = [] ++ (if S.told D leg n = true then [((k + 0 : Nat) : Int)] else [])
    rw [List.append_nil, List.nil_append, Nat.add_zero]
  | c :: r, S, k => by
    have ih := runS_snoc (D := D) (leg := leg) (n := n) (xs := r) (S := S.step D c) (k := k + 1)
    show _ ++ runS D leg (r ++ [n]) _ _ = (_ ++ runS D leg r _ _) ++ _
    rw [ih, List.append_assoc, show k + 1 + r.length = k + (c :: r).length by simp; lia]
    rfl
theorem runS_len {D : Db} {leg : Bool} : ∀ {xs : List Int} {S : SS} {k : Nat}, (runS D leg xs S k).length ≤ xs.length
  | [], _, _ => Nat.le_refl _
  | c :: r, S, k => by
    have ih := runS_len (D := D) (leg := leg) (xs := r) (S := S.step D c) (k := k + 1)
    show (_ ++ runS D leg r _ _).length ≤ r.length + 1
    rw [List.length_append]
    split
    · simp; lia
    · simp; lia
theorem plcs_e {D : Db} {leg : Bool} {tx : List Int} (h : decide (tx = []) = true) : plcs D tx leg = runS D leg tx SS0 0 := by
  have := of_decide_eq_true h
  subst this; rfl
theorem plcs_n {D : Db} {leg : Bool} {tx : List Int} (h : decide (tx = []) = false) : plcs D tx leg = runS D leg tx SS0 0 ++ [(tx.length : Int)] := by
  unfold plcs; rw [if_neg (of_decide_eq_false h)]
theorem stepS_snoc {D : Db} {n : Int} {xs : List Int} {S : SS} : stepS D (xs ++ [n]) S = (stepS D xs S).step D n := by simp [stepS]
theorem take_snoc {tx : List Int} {i : Nat} {n : Int} (h : tx[i]? = some n) : tx.take (i + 1) = tx.take i ++ [n] := by rw [List.take_add_one, h]; rfl
theorem turn_y {D : Db} {leg : Bool} {tx : List Int} {i : Nat} {n : Int} {ys : List Value} {t : Tok} {S : SS} (h : tx[i]? = some n) (hS : S = stepS D (tx.take i) SS0) (hy : IntsAre ys (runS D leg (tx.take i) SS0 0)) (ht : S.told D leg n = true) :
    S.step D n = stepS D (tx.take (i + 1)) SS0 ∧ IntsAre (ys ++ [.int i t]) (runS D leg (tx.take (i + 1)) SS0 0) := by
  subst hS
  have hl : (tx.take i).length = i := by rw [List.length_take]; have := (List.getElem?_eq_some_iff.mp h).1; lia
  rw [take_snoc h, stepS_snoc, runS_snoc, if_pos ht, hl, Nat.zero_add]
  exact ⟨rfl, IntsAre.append hy (.cons _ t .nil)⟩
theorem turn_n {D : Db} {leg : Bool} {tx : List Int} {i : Nat} {n : Int} {ys : List Value} {S : SS} (h : tx[i]? = some n) (hS : S = stepS D (tx.take i) SS0) (hy : IntsAre ys (runS D leg (tx.take i) SS0 0)) (ht : S.told D leg n = false) :
    S.step D n = stepS D (tx.take (i + 1)) SS0 ∧ IntsAre ys (runS D leg (tx.take (i + 1)) SS0 0) := by
  subst hS
  rw [take_snoc h, stepS_snoc, runS_snoc, if_neg (ne_true_of_eq_false ht), List.append_nil]
  exact ⟨rfl, hy⟩
theorem Codes.of_get {tx : List Int} (h : Codes tx) {i : Nat} {n : Int} (hn : tx[i]? = some n) : 8704 ≤ n ∧ n < 8720 := by
  obtain ⟨hi, e⟩ := List.getElem?_eq_some_iff.mp hn
  have := h i hi
  rw [List.getD_eq_getElem?_getD, hn] at this
  exact this
theorem notin2 {a x dx d : Addr} {q : Nat → Int} {u : Nat → Tok} {sl : Array (Option Value)} {leg : Bool} {S : SS} {tk tc : Tok} (h1 : @Ne Nat a x) (h2 : @Ne Nat a dx) : a ∉ (strL x dx d q u sl leg S tk tc).map (·.1) := fun h => by
  rcases List.mem_cons.mp h with h | h
  · exact h1 h
  · exact h2 (List.mem_singleton.mp h)
theorem put_join {h₀ h : Heap} {L : Addr} {hd mu mu' tl : List (Addr × Obj)} (N : News h₀ L h mu') (rest : ∀ p ∈ hd ++ (mu ++ tl), p.1 ∉ mu.map (·.1) → h.get? p.1 = some p.2 ∧ p.1 ≠ L ∧ h₀.get? p.1 = none)
    (h1 : ∀ p ∈ hd, p.1 ∉ mu.map (·.1)) (h2 : ∀ p ∈ tl, p.1 ∉ mu.map (·.1)) : News h₀ L h (hd ++ (mu' ++ tl)) := fun p hp => by
  rcases List.mem_append.mp hp with hp | hp
  · exact rest p (List.mem_append_left _ hp) (h1 p hp)
  · rcases List.mem_append.mp hp with hp | hp
    · exact N p hp
    · exact rest p (List.mem_append_right _ (List.mem_append_right _ hp)) (h2 p hp)

theorem c_places : ∀ (w : World) (d : Addr) (D : Db) (ta : Addr) (vs : List Value) (tx : List Int) (leg : Bool), (Txt vs tx) → CtrM w 180 20 [.ref ta, .ref d, .bool leg] [] (TextAt w d D ta vs) (IntNew (plcs D tx leg)) := by
  intro w d D ta vs tx leg hT
  k_dflt (refine' CtrM.bodyCX TextAt.mono (binds := [(Str.ofString "text", .ref ta), (Str.ofString "data", .ref d), (Str.ofString "is_legacy", .bool leg)]) ?ho ?hcd ?hbind ?hkind ?hnd ?h rfl ?hd1 ?hco ?hgen ?hk; (case ho => k_is); (case hcd => k_is); (case hbind => first | exact fun _ _ => BindsTo.of_eq rfl | exact fun _ X' => binds_K X' rfl (by k_is) rfl rfl rfl); (case hkind => exact rfl); (case hnd => decide +kernel); (case hd1 => decide); (case hco => exact rfl); (case hgen => exact rfl); (case hk => exact rfl))
  intro kx
  revert hT
  revert w d D ta vs tx leg kx
  refine seal8 (dW, default, ⟨fun _ => default, fun _ => default, fun _ => false⟩, default, default, default, default, dCx) ?_
  generalize sl8_0 _ _ = w, sl8_1 _ _ = d, sl8_2 _ _ = D, sl8_3 _ _ = ta, sl8_4 _ _ = vs, sl8_5 _ _ = tx, sl8_6 _ _ = leg, sl8_7 _ _ = kx
  intro hT
  w_top off
  intro cells B F N Y X T hdp hun hP
  simp only [List.append_nil] at N
  have _ : Dm := Dm.mk
  have _ : Rim := Rim.mk
  k_with_none
  k_with "@binaryOp Add ref ref" => ((k_here; k_extra "add"))
  k_with "@exec Assign cons ListComp" => ((k_here; k_extra "lcEA"))
  k_with "@call type:enumerate" => ((k_here; k_extra "enum"))
  k_with "@call ref" => ((k_here; (with_reducible show wpAny _ _ (call (Value.ref 170) _) _ _ _); k_extra "stream"))
  k_with "@call ref" => ((k_here; (with_reducible show wpAny _ _ (call (Value.ref 153) _) _ _ _); k_extra "put"))
  k_with "k0" => (k_here; (with_reducible show wpAny _ _ (callWith _ (Value.ref _) _ (backTo _ (starEach [] _)) []) _ _ _); k_dflt (refine' callWith_K0 ?k1_q9 ?k2_q9 ?_; (case k1_q9 => first | with_reducible assumption | exact Frag.In.keeps (by with_reducible assumption) (Fr.keep (by with_reducible assumption))); (case k2_q9 => k_is); k_whole))
  k_with "fold" => (k_fold; (with_reducible rename Dm => d9); revert d9; revert ek; revert qk; intro qk ek _)
  k_with "seal0" => k_extra "seal"
  k_with "seal" =>
    (with_reducible show wpAny _ _ (execs (_ :: _) _) _ _ _)
    (try k_extra "preseal")
    (fail_if_success (have y9 := ‹_›; (with_reducible have y8 : Rim := y9)))
    (repeat ((fail_if_success (have y9 := ‹_›; (with_reducible have y8 : Rim := y9))); first | ((fail_if_success (have y9 := ‹_›; have y8 : (_ : Prop) := y9)); clear (‹_›)) | revert (‹_›)))
    (repeat (first
      | ((with_reducible refine seal2 dHT ?_); (generalize sl2_0 _ _ = z8, sl2_1 _ _ = z7))
      | ((with_reducible refine seal1 dHp ?_); (generalize eps _ _ = z8))
      | ((with_reducible refine seal1 (0 : Nat) ?_); (generalize eps _ _ = z8))
      | ((with_reducible refine seal1 default ?_); (generalize eps _ _ = z8))
      | (with_reducible intro _)))
    ((with_reducible rename Rim => m9); revert m9; intro _)

  k_cells Y
  k_extra "seal0"
  (with_reducible rename News _ _ _ _ => N)
  (with_reducible rename Fr _ _ _ _ => F)
  obtain ⟨hi, hc, hl⟩ := id hT
  have hPT := hP
  obtain ⟨hD, hL⟩ := hP
  have hlen := hi.length
  k_with "stream" =>
    k_dflt (refine' Cls.use (fun x9 dx9 hne9 => c_init _ _ _ x9 dx9 hne9) ?km ?ki ?kf ?k1 ?k2 ?k3 ?k4 ?k5 ?k6 ?k7 ?k8 ?k9 ?_; (case km => k_is); (case ki => k_is); (case kf => k_is); (case k1 => k_asm); (case k2 => k_asm); (case k3 => k_asm); (case k4 => k_asm); (case k5 => k_asm); (case k6 => first | exact rfl | assumption); (case k7 => trivial); (case k8 => ktr_room); (case k9 => ktr_units))
    intro x dx h9 tk9 mu9 F9 N9 rest9 off9 hxd9 hne9 hr9
    obtain ⟨q, u, tq, tc, he9⟩ := hr9
    subst he9
    have N10 := news_join N9 rest9
    simp only [List.forall_mem_cons, List.not_mem_nil, false_implies, implies_true, and_true] at off9
    simp only [strL, optS, List.cons_append, List.nil_append] at N10
    clear N9 rest9
    clear tq
    (revert x dx h9 tk9 q u tc; refine seal3 (default, default, default) ?_; generalize sl3_0 _ _ = x, sl3_1 _ _ = dx, sl3_2 _ _ = h9; refine seal1 (default) ?_; generalize eps _ _ = tk9; intro F9 hxd9 hne9; refine seal3 (default, default, default) ?_; generalize sl3_0 _ _ = q, sl3_1 _ _ = u, sl3_2 _ _ = tc; intro N10 off9)
    all_goals (try ((with_reducible rename Rim => m9); revert m9; intro _))
  k_with "lcEA" =>
    (with_reducible rename Obj => oc)
    (with_reducible rename Fr _ _ _ _ => FB)
    (with_reducible rename News _ _ _ _ => NB)
    k_dflt (refine Assign_ListComp_E (σ := SS × Tok × Tok) (l := ta) (items := vs.toArray) (fun c => strL x dx d q u #[] leg c.1 c.2.1 c.2.2 ++ [(kx.L' + 1, oc)]) (fun i ys c => c.1 = stepS D (tx.take i) SS0 ∧ IntsAre ys (runS D leg (tx.take i) SS0 0)) (by assumption) (by rfl) (by with_unfolding_all rfl) (by rfl) (by with_unfolding_all rfl) (by decide) (by rfl) (by decide) (by rfl) (by rfl) (by decide) (by rfl) (by rfl) ?_)
    all_goals (try ((with_reducible rename Rim => m9); revert m9; intro _))
  k_with "enum" =>
    refine call_enumerate_list (by is_list) ?_
    intro hE heE hitE hszE hkE
    (revert hE; refine seal1 (default) ?_; generalize eps _ _ = hE; intro heE hitE hszE hkE)
    k_dflt (refine SrcE.intro (SS0, (0 : Nat), tc) FB (by with_unfolding_all exact NB) hL (by rw [PySem.sizeLine_eq, List.size_toArray]; lia) heE hitE hkE (fun _ => rfl) (by dsimp only; rw [List.take_zero]; exact ⟨rfl, .nil⟩) (fun e it i v t₁ ys c oe oit C oC D₀ m₂ h tk hv hJ hNs hx1 hx2 F N off ie eD DC => ?_) (fun c ys D₀ h tk hJ F N off => ?_))
    (revert e it i v t₁ ys c oe oit C oC D₀ m₂ h tk; refine seal8 (default, default, default, default, default, default, (dSS,0,0), default) ?_; generalize sl8_0 _ _ = e, sl8_1 _ _ = it, sl8_2 _ _ = i, sl8_3 _ _ = v, sl8_4 _ _ = t₁, sl8_5 _ _ = ys, sl8_6 _ _ = c, sl8_7 _ _ = oe; refine seal5 (default, default, default, default, default) ?_; generalize sl5_0 _ _ = oit, sl5_1 _ _ = C, sl5_2 _ _ = oC, sl5_3 _ _ = D₀, sl5_4 _ _ = m₂; refine seal2 (default, default) ?_; generalize sl2_0 _ _ = h, sl2_1 _ _ = tk; intro hv hJ hNs hx1 hx2 F N off ie eD DC)
    rotate_left
    (revert c ys D₀ h tk; refine seal5 ((dSS,0,0), default, default, default, default) ?_; generalize sl5_0 _ _ = c, sl5_1 _ _ = ys, sl5_2 _ _ = D₀, sl5_3 _ _ = h, sl5_4 _ _ = tk; intro hJ F N off)
    obtain ⟨-, hJ2⟩ := hJ
    simp only [List.size_toArray, hlen, List.take_length] at hJ2
    simp only [strL, List.cons_append, List.nil_append] at N
    rotate_right
    obtain ⟨n, t, hev, hn⟩ := IntsAre.at hi i v (by simpa using hv)
    subst hev
    obtain ⟨hJ1, hJ2⟩ := hJ
    simp only [strL, List.cons_append, List.nil_append] at N
    simp only [strL, List.cons_append, List.nil_append, List.forall_mem_cons, List.not_mem_nil, false_implies, implies_true, and_true] at off
    obtain ⟨hn0, hn1⟩ := hc.of_get hn
    (revert n t; refine seal2 (default, default) ?_; generalize sl2_0 _ _ = n, sl2_1 _ _ = t; intro hn hv hx2 hn0 hn1)
    all_goals (try ((with_reducible rename Rim => m9); revert m9; intro _))
  k_with "put" =>
    k_dflt (refine' CtrM.use (c_put w x dx d D q u #[] leg c.1 c.2.1 c.2.2 n t hn0 hn1 hne9) ?k1 ?k2 ?k3 ?k4 ?kM ?k5 ?k6 ?k7 ?k8 ?k9 ?_; (case k1 => k_asm); (case k2 => k_asm); (case k3 => k_asm); (case k4 => k_asm); (case kM => exact (List.forall_mem_cons.mpr ⟨by k_mem, List.forall_mem_cons.mpr ⟨by k_mem, List.forall_mem_nil _⟩⟩)); (case k5 => k_asm); (case k6 => first | exact rfl | assumption); (case k7 => exact hD); (case k8 => ktr_room); (case k9 => ktr_units))
    intro r9 hP9 tkP9 mu9 FP9 NP9 rest9 hr9
    obtain ⟨hr9, tk1, tc1, he9⟩ := hr9
    subst hr9
    subst he9
    have N11 : News kx.g kx.L' hP9 ([(e, oe), (it, oit), (C, oC), (D₀, LCg.lst ys)] ++ (strL x dx d q u #[] leg (c.1.step D n) tk1 tc1 ++ [(kx.L' + 1, oc)])) := put_join (mu := strL x dx d q u #[] leg c.1 c.2.1 c.2.2) NP9 (by with_unfolding_all exact rest9)
      (List.forall_mem_cons.mpr ⟨notin2 (by lia) (by lia), List.forall_mem_cons.mpr ⟨notin2 (by lia) (by lia), List.forall_mem_cons.mpr ⟨notin2 (by lia) (by lia), List.forall_mem_cons.mpr ⟨notin2 (by lia) (by lia), List.forall_mem_nil _⟩⟩⟩⟩)
      (List.forall_mem_cons.mpr ⟨notin2 (by lia) (by lia), List.forall_mem_nil _⟩)
    simp only [strL, List.cons_append, List.nil_append] at N11
    clear rest9 NP9
  k_with "add" =>
    have hrl := runS_len (D := D) (leg := leg) (xs := tx) (S := SS0) (k := 0)
    refine add_lists_ints (vs := ys) (ws := [_]) (by k_asm) (by k_asm) (by is_list) (by is_list) hJ2 (.cons _ _ .nil) ?_ (hsz := by rw [PySem.sizeLine_eq]; simp only [List.length_cons, List.length_nil]; lia)
    intro hA FA NA IA
  ((try ((with_reducible rename Rim => m9); revert m9; intro _)); k_steps)
  all_goals (try dsimp only)
  all_goals (try exact TurnE.mk (c.1.step D n, tk1, tc1) (by assumption) (by assumption) (by with_unfolding_all exact fun p hp => hp) (turn_y hn hJ1 hJ2 (by assumption)))
  all_goals (try exact TurnE.mk (c.1.step D n, tk1, tc1) (by assumption) (by assumption) (by with_unfolding_all exact fun p hp => hp) (turn_n hn hJ1 hJ2 (by assumption)))
  all_goals (try exact DoneM.mk (mu' := [(D₀, LCg.lst ys)]) (by assumption) (by assumption) (List.forall_mem_cons.mpr ⟨by k_mem, List.forall_mem_nil _⟩) ⟨_, ys, _, rfl, rfl, (plcs_e (by assumption)).symm ▸ hJ2⟩)
  refine' DoneM.mk (mu' := [(_, { cls := .type "list", data := .seq (ys ++ [_]).toArray _ })]) (by assumption) (by assumption) ?hs ⟨_, _, _, rfl, rfl, ?hi⟩
  case hi => rw [plcs_n (by assumption)]; exact IA
  case hs => exact (List.forall_mem_cons.mpr ⟨by k_mem, List.forall_mem_nil _⟩)
structure Sign where
  g : Str
  i : Str
  e : Bool
def s0 : Sign := ⟨Str.ofString "", Str.ofString "", false⟩
def SignAt (h : Heap) (v : Value) (s : Sign) : Prop := (∃ a t1 t2, v = .ref a ∧ IsTup h a #[.str s.g t1, .str s.i t2, .bool s.e]) ∧ s.g.length ≤ 100
/-- a row of signs, as it stands -/
def RowAt (ra : Addr) (vs : List Value) (row : List Sign) (h : Heap) : Prop :=
  h.IsList ra vs.toArray ∧ vs.length = row.length ∧ row.length < 1000 ∧ ∀ i, i < row.length → ∃ v, vs[i]? = some v ∧ SignAt h v (row.getD i s0)
theorem SignAt.mono {h h' : Heap} (k : h.StaysIn h') {v : Value} {s : Sign} (x : SignAt h v s) : SignAt h' v s := by
  obtain ⟨⟨a, t1, t2, e, q⟩, z⟩ := x
  exact ⟨⟨a, t1, t2, e, q.keeps k⟩, z⟩
theorem RowAt.mono {ra : Addr} {vs : List Value} {row : List Sign} : Mono (RowAt ra vs row) := fun h h' k x => ⟨stays_list k x.1, x.2.1, x.2.2.1, fun i hi => by
  obtain ⟨v, a, b⟩ := x.2.2.2 i hi
  exact ⟨v, a, b.mono k⟩⟩
theorem RowAt.short {ra : Addr} {vs : List Value} {row : List Sign} {h : Heap} (R : RowAt ra vs row h) {i : Nat} (hi : i < row.length) : (row.getD i s0).g.length ≤ 100 := by
  obtain ⟨v, _, _, z⟩ := R.2.2.2 i hi
  exact z
theorem row_item {prog : Program} {w : World} {A : Around} {E : Value → Shared → Prop} {s : Shared} {h₀ : Heap} {L : Addr} {m : Str → Option Value} {value slice : PySem.Expr} {l : Addr} {vs : List Value} {row : List Sign} {k : Int} {u : Tok} {Q : Value → Shared → Prop}
    (F : Fr h₀ L s.heap m) (R : RowAt l vs row h₀) (h0 : 0 ≤ k) (hk : k < row.length) (h : ∀ a t1 t2, IsTup h₀ a #[.str (row.getD k.toNat s0).g t1, .str (row.getD k.toNat s0).i t2, .bool (row.getD k.toNat s0).e] → Q (.ref a) s)
    (hs : subscripted slice false (.ref l) (.int k u) = operate [.ref l, .int k u] (getItem (.ref l) (.int k u)) := by with_unfolding_all rfl) :
    wpAny (model prog w) A (subscriptTail value slice (.ref l) (.int k u)) Q E s := by
  obtain ⟨v, hv, ⟨a, t1, t2, rfl, hT⟩, _⟩ := R.2.2.2 k.toNat (by lia)
  exact my_item (stays_list F.keep R.1) h0 (by have := R.2.2.1; lia) hv (h a t1 t2 hT) hs
theorem tup_item {prog : Program} {w : World} {A : Around} {E : Value → Shared → Prop} {s : Shared} {h₀ : Heap} {L : Addr} {m : Str → Option Value} {value slice : PySem.Expr} {a : Addr} {x y z : Value} {k : Int} {j : Nat} {v : Value} {u : Tok} {Q : Value → Shared → Prop}
    (F : Fr h₀ L s.heap m) (T : IsTup h₀ a #[x, y, z]) (hlo : -(2 ^ 63) ≤ k) (hhi : k < 2 ^ 63) (hj : seqIndex? k 3 = some j) (hx : [x, y, z][j]? = some v) (h : Q v s)
    (hs : subscripted slice false (.ref a) (.int k u) = operate [.ref a, .int k u] (getItem (.ref a) (.int k u)) := by with_unfolding_all rfl) :
    wpAny (model prog w) A (subscriptTail value slice (.ref a) (.int k u)) Q E s :=
  item_tupleT (l := [x, y, z]) (T.keeps F.keep) hlo hhi hj hx h hs
theorem row_len {prog : Program} {w : World} {A : Around} {E : Value → Shared → Prop} {s : Shared} {h₀ : Heap} {L : Addr} {m : Str → Option Value} {l : Addr} {vs : List Value} {row : List Sign} {Q : Value → Shared → Prop}
    (F : Fr h₀ L s.heap m) (R : RowAt l vs row h₀) (h : ∀ t tk, Q (.int (row.length : Int) t) { s with toks := tk }) : wpAny (model prog w) A (call (.builtin "len") [.ref l]) Q E s := by
  have h1 := R.2.1
  have h2 := R.2.2.1
  refine len_list (stays_list F.keep R.1) (by rw [List.size_toArray]; lia) ?_
  rw [List.size_toArray, h1]
  exact h _ _
local macro_rules | `(tactic| walk_at "call builtin:len") => `(tactic| k_extra "@call builtin:len")
def lcB (row : List Sign) : Nat → Bool → Int × Bool
  | 0, l => (-1, l)
  | k + 1, l => if [Str.ofString "Extend", Str.ofString "Linker"].any (fun x => x == (row.getD k s0).i) = true then lcB row k (l || ((row.getD k s0).i == Str.ofString "Linker")) else ((k : Int), l)
def lawConj (row : List Sign) (i : Int) : Bool :=
  ((row.getD i.toNat s0).i == Str.ofString "Consonant") && (lcB row i.toNat false).2 && decide ((lcB row i.toNat false).1 ≥ 0) && ((row.getD (lcB row i.toNat false).1.toNat s0).i == Str.ofString "Consonant")

theorem lcB_j {row : List Sign} {b : Int} {l : Bool} (h : 0 ≤ b) (hj : ([Str.ofString "Extend", Str.ofString "Linker"].any (fun x => x == (row.getD b.toNat s0).i)) = true) : lcB row (b + 1).toNat l = lcB row (b - 1 + 1).toNat (l || ((row.getD b.toNat s0).i == Str.ofString "Linker")) := by
  obtain ⟨k, rfl⟩ := Int.eq_ofNat_of_zero_le h
  rw [show ((k : Int) + 1).toNat = k + 1 by lia, show ((k : Int) - 1 + 1).toNat = k by lia]
  rw [show ((k : Int)).toNat = k by lia] at hj ⊢
  show (if _ then _ else _) = _
  rw [if_pos hj]
theorem lcB_n {row : List Sign} {b : Int} {l : Bool} (h : 0 ≤ b) (hj : ([Str.ofString "Extend", Str.ofString "Linker"].any (fun x => x == (row.getD b.toNat s0).i)) = false) : lcB row (b + 1).toNat l = (b, l) := by
  obtain ⟨k, rfl⟩ := Int.eq_ofNat_of_zero_le h
  rw [show ((k : Int) + 1).toNat = k + 1 by lia]
  rw [show ((k : Int)).toNat = k by lia] at hj
  show (if _ then _ else _) = _
  rw [if_neg (ne_true_of_eq_false hj)]
theorem lcB_e {row : List Sign} {b : Int} {l : Bool} (h0 : -1 ≤ b) (h : ¬ 0 ≤ b) : lcB row (b + 1).toNat l = (b, l) := by
  rw [show (b + 1).toNat = 0 by lia]
  show ((-1 : Int), l) = _
  rw [show b = -1 by lia]
theorem c_lconj : ∀ (w : World) (ra : Addr) (vs : List Value) (row : List Sign) (i : Int) (t : Tok), (0 ≤ i) → (i < row.length) → Ctr w 338 1 [.ref ra, .int i t] (RowAt ra vs row) (fun v => v = .bool (lawConj row i)) := by
  intro w ra vs row i t h0 h1
  k_dflt (refine' Ctr.bodyX RowAt.mono (binds := [(Str.ofString "row", .ref ra), (Str.ofString "at", .int i t)]) ?ho ?hcd ?hbind ?hloc ?h ?hcell ?hd1 ?hco ?hgen ?hk; (case ho => k_is); (case hcd => k_is); (case hbind => first | exact fun _ _ => BindsTo.of_eq rfl | exact fun _ X' => binds_K X' rfl (by k_is) rfl rfl rfl); (case hloc => exact locs rfl); (case hcell => decide); (case hd1 => decide); (case hco => exact rfl); (case hgen => exact rfl); (case hk => exact rfl))
  intro kx
  revert h0 h1
  revert w ra vs row i t kx
  refine seal5 (dW, default, default, default, default) ?_
  generalize sl5_0 _ _ = w, sl5_1 _ _ = ra, sl5_2 _ _ = vs, sl5_3 _ _ = row, sl5_4 _ _ = i
  refine seal2 (default, dCx) ?_
  generalize sl2_0 _ _ = t, sl2_1 _ _ = kx
  intro h0 h1
  w_top off
  intro B F N X T hdp hun hP
  have _ : Dm := Dm.mk
  have _ : Rim := Rim.mk
  k_with_none
  k_with "@KswEnd" => ((k_here; k_extra "wend"))
  k_with "@exec While BoolOp cons nil" => ((k_here; k_extra "while"))
  k_with "@subscriptTail" => ((k_here; (with_reducible show wpAny _ _ (subscriptTail _ _ (Value.ref _) (Value.int _ _)) _ _ _); (with_unfolding_all first
      | (refine' row_item ?k1_q9 ?k2_q9 ?k3_q9 ?k4_q9 ?_ ?k6_q9; (case k2_q9 => with_reducible assumption); (case k1_q9 => k_asm); (case k3_q9 => lia); (case k4_q9 => lia); (case k6_q9 => with_unfolding_all rfl); k_whole; intro a9 t9 u9 hT9)
      | (refine' tup_item ?k1_q9 ?k2_q9 ?k3_q9 ?k4_q9 ?k5_q9 ?k6_q9 ?_ ?k7_q9; (case k2_q9 => with_reducible assumption); (case k1_q9 => k_asm); (case k3_q9 => decide); (case k4_q9 => decide); (case k5_q9 => exact rfl); (case k6_q9 => exact rfl); (case k7_q9 => with_unfolding_all rfl); k_whole))); (all_goals (try ((with_reducible show wpAny _ _ _ _ _ _); (try revert a9); (try revert t9); (try revert u9); (try revert hT9); intros))))
  k_with "k0" => (k_here; (with_reducible show wpAny _ _ (callWith _ (Value.ref _) _ (backTo _ (starEach [] _)) []) _ _ _); k_dflt (refine' callWith_K0 ?k1_q9 ?k2_q9 ?_; (case k1_q9 => first | with_reducible assumption | exact Frag.In.keeps (by with_reducible assumption) (Fr.keep (by with_reducible assumption))); (case k2_q9 => k_is); k_whole))
  k_with "fold" => (k_fold; (with_reducible rename Dm => d9); revert d9; revert ek; revert qk; intro qk ek _)
  k_with "seal0" => k_extra "seal"
  k_with "seal" =>
    (with_reducible show wpAny _ _ (execs (_ :: _) _) _ _ _)
    (try k_extra "preseal")
    (fail_if_success (have y9 := ‹_›; (with_reducible have y8 : Rim := y9)))
    (repeat ((fail_if_success (have y9 := ‹_›; (with_reducible have y8 : Rim := y9))); first | ((fail_if_success (have y9 := ‹_›; have y8 : (_ : Prop) := y9)); clear (‹_›)) | revert (‹_›)))
    (repeat (first
      | ((with_reducible refine seal2 dHT ?_); (generalize sl2_0 _ _ = z8, sl2_1 _ _ = z7))
      | ((with_reducible refine seal1 dHp ?_); (generalize eps _ _ = z8))
      | ((with_reducible refine seal1 (0 : Nat) ?_); (generalize eps _ _ = z8))
      | ((with_reducible refine seal1 default ?_); (generalize eps _ _ = z8))
      | (with_reducible intro _)))
    ((with_reducible rename Rim => m9); revert m9; intro _)

  have hl := hP.2.2.1
  k_with "while" =>
    k_dflt (refine' ksw_while (σ := Int × Tok × Bool) (fun _ => []) (fun c => [(Str.ofString "here", .int c.1 c.2.1), (Str.ofString "is_linked", .bool c.2.2)]) (fun _ => True) [] (fun k => -1 ≤ k.1 ∧ k.1 < i ∧ lcB row (k.1 + 1).toNat k.2.2 = lcB row i.toNat false) (fun k => (k.1 + 1).toNat) (_, _, _) ?F ?N ?Fa ?hk ?hp ?turn; (case F => k_asm); (case hk => kst_all); (case N => exact News.nil); (case Fa => exact True.intro); (case hp => (dsimp only; refine ⟨by lia, by lia, ?_⟩; congr 1; lia)))
    rintro ⟨here, tb, lk⟩ u h tk - ⟨b1, b2, b3⟩ F1 N1
    dsimp only [kstB] at b1 b2 b3 F1 N1 ⊢
    (revert here tb lk u h tk; refine seal5 (default, default, default, default, default) ?_; generalize sl5_0 _ _ = here, sl5_1 _ _ = tb, sl5_2 _ _ = lk, sl5_3 _ _ = u, sl5_4 _ _ = h; refine seal1 (default) ?_; generalize eps _ _ = tk; intro b1 b2 b3 F1 N1)
    all_goals (try ((with_reducible rename Rim => m9); revert m9; intro _))
  k_with "wend" =>
    refine ksw_end (_, _, _) (by assumption) (by assumption) (by kst_in) (by kst_facts) (by kst_all) (by ksw_same) ?_ ?_
    all_goals dsimp only
    · refine ⟨by lia, by lia, ?_⟩
      rw [← b3, lcB_j (row := row) (b := here) (by lia) (by assumption)]
      first | exact congrArg _ (or_l (by assumption)) | exact congrArg _ (or_r (by assumption))
    · lia
  ((try ((with_reducible rename Rim => m9); revert m9; intro _)); k_steps)
  all_goals (try dsimp only)
  all_goals (refine Done.mk (by assumption) (congrArg Value.bool ?_))
  all_goals (have q9 : lcB row i.toNat false = (here, lk) := by first | exact b3.symm.trans (lcB_n (by lia) (by assumption)) | exact b3.symm.trans (lcB_e b1 (by assumption)))
  all_goals (unfold lawConj; rw [q9]; clear b3 q9; dsimp only)
  all_goals first
    | (rw [decide_eq_true (by lia : here ≥ 0)]; simp only [*, Bool.true_and, Bool.and_true, Bool.false_and, Bool.and_false]; done)
    | (rw [decide_eq_false (by lia : ¬ here ≥ 0)]; simp only [*, Bool.true_and, Bool.and_true, Bool.false_and, Bool.and_false]; done)
    | (rw [decide_eq_false (by lia : ¬ here ≥ 0)]; simp only [*, Bool.true_and, Bool.and_true, Bool.false_and, Bool.and_false]; exact decide_eq_false (by lia))

def lpB (row : List Sign) : Nat → Bool
  | 0 => false
  | k + 1 => if (row.getD k s0).e = true then true else if ((row.getD k s0).g == Str.ofString "Extend") = true then lpB row k else false
theorem lpB_at {row : List Sign} {b : Int} (h : 0 ≤ b) : lpB row (b + 1).toNat = (if (row.getD b.toNat s0).e = true then true else if ((row.getD b.toNat s0).g == Str.ofString "Extend") = true then lpB row (b - 1 + 1).toNat else false) := by
  obtain ⟨k, rfl⟩ := Int.eq_ofNat_of_zero_le h
  rw [show ((k : Int) + 1).toNat = k + 1 by lia, show ((k : Int) - 1 + 1).toNat = k by lia, show ((k : Int)).toNat = k by lia]
  rfl
theorem lpB_p {row : List Sign} {b : Int} (h : 0 ≤ b) (hp : (row.getD b.toNat s0).e = true) : lpB row (b + 1).toNat = true := by rw [lpB_at h, if_pos hp]
theorem lpB_n {row : List Sign} {b : Int} (h : 0 ≤ b) (hp : (row.getD b.toNat s0).e = false) (hg : ((row.getD b.toNat s0).g != Str.ofString "Extend") = true) : lpB row (b + 1).toNat = false := by
  rw [lpB_at h, if_neg (ne_true_of_eq_false hp), if_neg (by simpa [bne] using hg)]
theorem lpB_j {row : List Sign} {b : Int} (h : 0 ≤ b) (hp : (row.getD b.toNat s0).e = false) (hg : ((row.getD b.toNat s0).g != Str.ofString "Extend") = false) : lpB row (b + 1).toNat = lpB row (b - 1 + 1).toNat := by
  rw [lpB_at h, if_neg (ne_true_of_eq_false hp), if_pos (by simpa [bne] using hg)]
def lawPic (row : List Sign) (i : Int) : Bool := (row.getD i.toNat s0).e && ((row.getD (i - 1).toNat s0).g == Str.ofString "ZWJ") && lpB row (i - 2 + 1).toNat
theorem lawPic_b {row : List Sign} {i : Int} (h : ((row.getD (i - 1).toNat s0).g != Str.ofString "ZWJ") = true) : lawPic row i = false := by
  have h' : ((row.getD (i - 1).toNat s0).g == Str.ofString "ZWJ") = false := by simpa [bne] using h
  unfold lawPic; rw [h']; simp
theorem lawPic_a {row : List Sign} {i : Int} (h : (row.getD i.toNat s0).e = false) : lawPic row i = false := by unfold lawPic; rw [h]; rfl
theorem lawPic_c {row : List Sign} {i : Int} (h : (row.getD i.toNat s0).e = true) (hz : ((row.getD (i - 1).toNat s0).g != Str.ofString "ZWJ") = false) : lawPic row i = lpB row (i - 2 + 1).toNat := by
  have h' : ((row.getD (i - 1).toNat s0).g == Str.ofString "ZWJ") = true := by simpa [bne] using hz
  unfold lawPic; rw [h, h']; rfl
theorem c_lpic : ∀ (w : World) (ra : Addr) (vs : List Value) (row : List Sign) (i : Int) (t : Tok), (0 < i) → (i < row.length) → Ctr w 345 1 [.ref ra, .int i t] (RowAt ra vs row) (fun v => v = .bool (lawPic row i)) := by
  intro w ra vs row i t h0 h1
  k_dflt (refine' Ctr.bodyX RowAt.mono (binds := [(Str.ofString "row", .ref ra), (Str.ofString "at", .int i t)]) ?ho ?hcd ?hbind ?hloc ?h ?hcell ?hd1 ?hco ?hgen ?hk; (case ho => k_is); (case hcd => k_is); (case hbind => first | exact fun _ _ => BindsTo.of_eq rfl | exact fun _ X' => binds_K X' rfl (by k_is) rfl rfl rfl); (case hloc => exact locs rfl); (case hcell => decide); (case hd1 => decide); (case hco => exact rfl); (case hgen => exact rfl); (case hk => exact rfl))
  intro kx
  revert h0 h1
  revert w ra vs row i t kx
  refine seal5 (dW, default, default, default, default) ?_
  generalize sl5_0 _ _ = w, sl5_1 _ _ = ra, sl5_2 _ _ = vs, sl5_3 _ _ = row, sl5_4 _ _ = i
  refine seal2 (default, dCx) ?_
  generalize sl2_0 _ _ = t, sl2_1 _ _ = kx
  intro h0 h1
  intro B F N X T hdp hun hP
  have _ : Dm := Dm.mk
  have _ : Rim := Rim.mk
  k_with_none
  k_with "@KswEnd" => ((k_here; k_extra "wend"))
  k_with "@exec While Compare cons nil" => ((k_here; k_extra "while"))
  k_with "@subscriptTail" => ((k_here; (with_reducible show wpAny _ _ (subscriptTail _ _ (Value.ref _) (Value.int _ _)) _ _ _); (with_unfolding_all first
      | (refine' row_item ?k1_q9 ?k2_q9 ?k3_q9 ?k4_q9 ?_ ?k6_q9; (case k2_q9 => with_reducible assumption); (case k1_q9 => k_asm); (case k3_q9 => lia); (case k4_q9 => lia); (case k6_q9 => with_unfolding_all rfl); k_whole; intro a9 t9 u9 hT9)
      | (refine' tup_item ?k1_q9 ?k2_q9 ?k3_q9 ?k4_q9 ?k5_q9 ?k6_q9 ?_ ?k7_q9; (case k2_q9 => with_reducible assumption); (case k1_q9 => k_asm); (case k3_q9 => decide); (case k4_q9 => decide); (case k5_q9 => exact rfl); (case k6_q9 => exact rfl); (case k7_q9 => with_unfolding_all rfl); k_whole))); (all_goals (try ((with_reducible show wpAny _ _ _ _ _ _); (try revert a9); (try revert t9); (try revert u9); (try revert hT9); intros))))
  k_with "k0" => (k_here; (with_reducible show wpAny _ _ (callWith _ (Value.ref _) _ (backTo _ (starEach [] _)) []) _ _ _); k_dflt (refine' callWith_K0 ?k1_q9 ?k2_q9 ?_; (case k1_q9 => first | with_reducible assumption | exact Frag.In.keeps (by with_reducible assumption) (Fr.keep (by with_reducible assumption))); (case k2_q9 => k_is); k_whole))
  k_with "fold" => (k_fold; (with_reducible rename Dm => d9); revert d9; revert ek; revert qk; intro qk ek _)
  k_with "seal0" => k_extra "seal"
  k_with "seal" =>
    (with_reducible show wpAny _ _ (execs (_ :: _) _) _ _ _)
    (try k_extra "preseal")
    (fail_if_success (have y9 := ‹_›; (with_reducible have y8 : Rim := y9)))
    (repeat ((fail_if_success (have y9 := ‹_›; (with_reducible have y8 : Rim := y9))); first | ((fail_if_success (have y9 := ‹_›; have y8 : (_ : Prop) := y9)); clear (‹_›)) | revert (‹_›)))
    (repeat (first
      | ((with_reducible refine seal2 dHT ?_); (generalize sl2_0 _ _ = z8, sl2_1 _ _ = z7))
      | ((with_reducible refine seal1 dHp ?_); (generalize eps _ _ = z8))
      | ((with_reducible refine seal1 (0 : Nat) ?_); (generalize eps _ _ = z8))
      | ((with_reducible refine seal1 default ?_); (generalize eps _ _ = z8))
      | (with_reducible intro _)))
    ((with_reducible rename Rim => m9); revert m9; intro _)

  have hl := hP.2.2.1
  k_with "while" =>
    k_dflt (refine' ksw_while (σ := Int × Tok) (fun _ => []) (fun c => [(Str.ofString "here", .int c.1 c.2)]) (fun _ => True) [] (fun k => -1 ≤ k.1 ∧ k.1 < i ∧ lpB row (k.1 + 1).toNat = lpB row (i - 2 + 1).toNat) (fun k => (k.1 + 1).toNat) (_, _) ?F ?N ?Fa ?hk ?hp ?turn; (case F => k_asm); (case hk => kst_all); (case N => exact News.nil); (case Fa => exact True.intro); (case hp => (dsimp only; exact ⟨by lia, by lia, rfl⟩)))
    rintro ⟨back, tb⟩ u h tk - ⟨b1, b2, b3⟩ F1 N1
    dsimp only [kstB] at b1 b2 b3 F1 N1 ⊢
    (revert back tb u h tk; refine seal5 (default, default, default, default, default) ?_; generalize sl5_0 _ _ = back, sl5_1 _ _ = tb, sl5_2 _ _ = u, sl5_3 _ _ = h, sl5_4 _ _ = tk; intro b1 b2 b3 F1 N1)
    all_goals (try ((with_reducible rename Rim => m9); revert m9; intro _))
  k_with "wend" =>
    refine ksw_end (_, _) (by assumption) (by assumption) (by kst_in) (by kst_facts) (by kst_all) (by ksw_same) ?_ ?_
    all_goals dsimp only
    · refine ⟨by lia, by lia, ?_⟩
      rw [← b3, lpB_j (row := row) (b := back) (by lia) (by assumption) (by assumption)]
    · lia
  ((try ((with_reducible rename Rim => m9); revert m9; intro _)); k_steps)
  all_goals (try dsimp only)
  all_goals (refine Done.mk (by assumption) (congrArg Value.bool ?_))
  all_goals first
    | exact (lawPic_b (by assumption)).symm
    | exact (lawPic_a (by assumption)).symm
    | exact (((lawPic_c (by assumption) (by assumption)).trans b3.symm).trans (lpB_p (by lia) (by assumption))).symm
    | exact (((lawPic_c (by assumption) (by assumption)).trans b3.symm).trans (lpB_n (by lia) (by assumption) (by assumption))).symm
    | exact (((lawPic_c (by assumption) (by assumption)).trans b3.symm).trans (by rw [show (back + 1).toNat = 0 by lia]; rfl)).symm
def StrNew (xs : List Str) (v : Value) (mu : List (Addr × Obj)) : Prop := ∃ a vs n, v = .ref a ∧ mu = [(a, { cls := .type "list", data := .seq (List.toArray vs) n })] ∧ StrsAre vs xs
def joinsL : List Str := [Str.ofString "L L", Str.ofString "L V", Str.ofString "L LV", Str.ofString "L LVT", Str.ofString "LV V", Str.ofString "LV T", Str.ofString "V V", Str.ofString "V T", Str.ofString "LVT T", Str.ofString "T T"]
theorem c_ljoins : ∀ (w : World), CtrM w 319 1 [] [] (fun _ => True) (StrNew joinsL) := by
  intro w
  k_dflt (refine' CtrM.bodyX Mono.top (binds := []) ?ho ?hcd ?hbind ?hloc ?h ?hcell ?hd1 ?hco ?hgen ?hk; (case ho => k_is); (case hcd => k_is); (case hbind => first | exact fun _ _ => BindsTo.of_eq rfl | exact fun _ X' => binds_K X' rfl (by k_is) rfl rfl rfl); (case hloc => exact locs rfl); (case hcell => decide); (case hd1 => decide); (case hco => exact rfl); (case hgen => exact rfl); (case hk => exact rfl))
  intro kx
  revert w kx
  refine seal2 (dW, dCx) ?_
  generalize sl2_0 _ _ = w, sl2_1 _ _ = kx
  w_top off
  intro B F N X T hdp hun hP
  have _ : Dm := Dm.mk
  have _ : Rim := Rim.mk
  k_with_none
  k_with "k0" => (k_here; (with_reducible show wpAny _ _ (callWith _ (Value.ref _) _ (backTo _ (starEach [] _)) []) _ _ _); k_dflt (refine' callWith_K0 ?k1_q9 ?k2_q9 ?_; (case k1_q9 => first | with_reducible assumption | exact Frag.In.keeps (by with_reducible assumption) (Fr.keep (by with_reducible assumption))); (case k2_q9 => k_is); k_whole))
  k_with "fold" => (k_fold; (with_reducible rename Dm => d9); revert d9; revert ek; revert qk; intro qk ek _)
  k_with "seal0" => k_extra "seal"
  k_with "seal" =>
    (with_reducible show wpAny _ _ (execs (_ :: _) _) _ _ _)
    (try k_extra "preseal")
    (fail_if_success (have y9 := ‹_›; (with_reducible have y8 : Rim := y9)))
    (repeat ((fail_if_success (have y9 := ‹_›; (with_reducible have y8 : Rim := y9))); first | ((fail_if_success (have y9 := ‹_›; have y8 : (_ : Prop) := y9)); clear (‹_›)) | revert (‹_›)))
    (repeat (first
      | ((with_reducible refine seal2 dHT ?_); (generalize sl2_0 _ _ = z8, sl2_1 _ _ = z7))
      | ((with_reducible refine seal1 dHp ?_); (generalize eps _ _ = z8))
      | ((with_reducible refine seal1 (0 : Nat) ?_); (generalize eps _ _ = z8))
      | ((with_reducible refine seal1 default ?_); (generalize eps _ _ = z8))
      | (with_reducible intro _)))
    ((with_reducible rename Rim => m9); revert m9; intro _)

  ((try ((with_reducible rename Rim => m9); revert m9; intro _)); k_steps)
  all_goals (try dsimp only)
  refine' DoneM.mk (mu' := [(_, { cls := .type "list", data := .seq (List.toArray _) _ })]) (by assumption) (by assumption) ?hs ⟨_, _, _, rfl, rfl, ?hi⟩
  case hs => exact (List.forall_mem_cons.mpr ⟨by k_mem, List.forall_mem_nil _⟩)
  case hi => repeat constructor
theorem ne_nilL {prog : Program} {w : World} {A : Around} {E : Value → Shared → Prop} {s : Shared} {l b : Addr} {vs : List Value} {Q : Value → Shared → Prop} (hl : s.heap.IsList l vs.toArray) (hb : s.heap.IsList b #[]) (hu : A.units < cLine) (h : Q (.bool (!decide (vs.length = 0))) s) :
    wpAny (model prog w) A (compareOp .NotEq (.ref l) (.ref b)) Q E s := by
  cases vs with
  | nil => exact SeqAt.RcNeAt.lists (e := fun _ => true) hl hb rfl hu (fun j h1 => by simp at h1) prog w E Q h
  | cons v r => exact SeqAt.RcNeAt.lists_lengths hl hb (by simp) hu prog w E Q h
theorem ne_tup2 {prog : Program} {w : World} {A : Around} {E : Value → Shared → Prop} {s : Shared} {l b : Addr} {a c x y : Str} {t1 t2 u1 u2 : Tok} {Q : Value → Shared → Prop} (hl : IsTup s.heap l #[.str a t1, .str c t2]) (hb : IsTup s.heap b #[.str x u1, .str y u2]) (hu : A.units < cLine) (h : Q (.bool (!((a == x) && (c == y)))) s) :
    wpAny (model prog w) A (compareOp .NotEq (.ref l) (.ref b)) Q E s := by
  have := SeqAt.RcNeAt.tuples (A := A) (e := fun j => if j = 0 then a == x else c == y) hl hb hu (fun j h1 h2 => by
    match j, h1, h2 with
    | 0, _, _ => exact SeqAt.EqAt.str_str _ _ _ _
    | 1, _, _ => exact SeqAt.EqAt.str_str _ _ _ _) prog w E Q
  refine this ?_
  have e : ((List.range (min (#[Value.str a t1, Value.str c t2] : Array Value).size (#[Value.str x u1, Value.str y u2] : Array Value).size)).all (fun j => if j = 0 then a == x else c == y) && ((#[Value.str a t1, Value.str c t2] : Array Value).size == (#[Value.str x u1, Value.str y u2] : Array Value).size)) = ((a == x) && (c == y)) := by
    simp [List.range_succ]
  rw [e]; exact h
theorem notin_bools {prog : Program} {w : World} {A : Around} {E : Value → Shared → Prop} {s : Shared} {l : Addr} {vs : List Value} {bs : List Bool} {Q : Value → Shared → Prop} (hl : s.heap.IsList l vs.toArray) (hb : vs = bs.map Value.bool) (h : Q (.bool (!bs.any id)) s) :
    wpAny (model prog w) A (compareOp .NotIn (.bool true) (.ref l)) Q E s := by
  subst hb
  refine SeqAt.notIn_listAt (fun v => match v with | .bool b => b | _ => false) hl (fun y hy => ?_) ?_
  · have hy' : y ∈ bs.map Value.bool := by simpa using hy
    obtain ⟨b, _, rfl⟩ := List.mem_map.mp hy'
    have := SeqAt.EqAt.bool_bool (A := A.in1) (s := s) b true
    simpa using this
  · have e : ((bs.map Value.bool).toArray.any fun v => match v with | .bool b => b | _ => false) = bs.any id := by
      rw [List.any_toArray, List.any_map]; rfl
    rw [e]; exact h
local macro_rules | `(tactic| walk_at "compareOp NotIn bool ref") => `(tactic| k_extra "@compareOp NotIn bool ref")
local macro_rules | `(tactic| walk_at "binaryOp Add str str") => `(tactic| k_extra "@binaryOp Add str str")
local macro_rules | `(tactic| walk_at "compareOp NotEq ref ref") => `(tactic| k_extra "@compareOp NotEq ref ref")
def riL (row : List Sign) : Nat → Nat
  | 0 => 0
  | k + 1 => if ((row.getD k s0).g == Str.ofString "Regional_Indicator") = true then riL row k + 1 else 0
theorem riL_y {row : List Sign} {i m : Int} (h : m < i) (h0 : 0 ≤ m) (hg : ((row.getD (i - 1 - m).toNat s0).g == Str.ofString "Regional_Indicator") = true) : riL row (i - m).toNat = riL row (i - (m + 1)).toNat + 1 := by
  obtain ⟨k, hk⟩ : ∃ k : Nat, i - m = k + 1 := ⟨(i - m - 1).toNat, by lia⟩
  rw [show (i - m).toNat = k + 1 by lia, show (i - (m + 1)).toNat = k by lia]
  rw [show (i - 1 - m).toNat = k by lia] at hg
  show (if _ then _ else _) = _
  rw [if_pos hg]
theorem riL_n {row : List Sign} {i m : Int} (h : m < i) (h0 : 0 ≤ m) (hg : ((row.getD (i - 1 - m).toNat s0).g == Str.ofString "Regional_Indicator") = false) : riL row (i - m).toNat = 0 := by
  obtain ⟨k, hk⟩ : ∃ k : Nat, i - m = k + 1 := ⟨(i - m - 1).toNat, by lia⟩
  rw [show (i - m).toNat = k + 1 by lia]
  rw [show (i - 1 - m).toNat = k by lia] at hg
  show (if _ then _ else _) = _
  rw [if_neg (ne_true_of_eq_false hg)]

def endsL : List Str := [Str.ofString "CR", Str.ofString "LF", Str.ofString "Control"]
def lawBrk (row : List Sign) (i : Int) (leg : Bool) : Bool :=
  if i = 0 ∨ i = row.length then !decide (row.length = 0) else
    if [Str.ofString "CR", Str.ofString "LF", Str.ofString "Control"].any (fun x => x == (row.getD (i - 1).toNat s0).g) = true ∨ [Str.ofString "CR", Str.ofString "LF", Str.ofString "Control"].any (fun x => x == (row.getD i.toNat s0).g) = true then
      !((row.getD (i - 1).toNat s0).g == Str.ofString "CR" && (row.getD i.toNat s0).g == Str.ofString "LF")
    else if leg = true then
      ![joinsL.any fun x => x == (row.getD (i - 1).toNat s0).g ++ Str.ofString " " ++ (row.getD i.toNat s0).g, [Str.ofString "Extend", Str.ofString "ZWJ"].any fun x => x == (row.getD i.toNat s0).g, lawPic row i,
        ((row.getD i.toNat s0).g == Str.ofString "Regional_Indicator") && decide (riL row i.toNat % 2 = 1)].any id
    else
      ![joinsL.any fun x => x == (row.getD (i - 1).toNat s0).g ++ Str.ofString " " ++ (row.getD i.toNat s0).g, [Str.ofString "Extend", Str.ofString "ZWJ"].any fun x => x == (row.getD i.toNat s0).g, lawPic row i,
        ((row.getD i.toNat s0).g == Str.ofString "Regional_Indicator") && decide (riL row i.toNat % 2 = 1), (row.getD i.toNat s0).g == Str.ofString "SpacingMark", (row.getD (i - 1).toNat s0).g == Str.ofString "Prepend", lawConj row i].any id
theorem flag_y {row : List Sign} {i many : Int} (h : ((row.getD i.toNat s0).g == Str.ofString "Regional_Indicator") = true) (hm : (riL row i.toNat : Int) = many) : (many.fmod 2 == 1) = (((row.getD i.toNat s0).g == Str.ofString "Regional_Indicator") && decide (riL row i.toNat % 2 = 1)) := by
  rw [h, Bool.true_and, Int.fmod_eq_emod_of_nonneg _ (by decide), ← hm]
  rw [Bool.eq_iff_iff]
  simp only [decide_eq_true_eq, beq_iff_eq]
  lia
theorem c_lbrk : ∀ (w : World) (ra : Addr) (vs : List Value) (row : List Sign) (i : Int) (t : Tok) (leg : Bool), (0 ≤ i) → (i ≤ row.length) → Ctr w 352 3 [.ref ra, .int i t, .bool leg] (RowAt ra vs row) (fun v => v = .bool (lawBrk row i leg)) := by
  intro w ra vs row i t leg h0 h1
  k_dflt (refine' Ctr.bodyX RowAt.mono (binds := [(Str.ofString "row", .ref ra), (Str.ofString "at", .int i t), (Str.ofString "is_legacy", .bool leg)]) ?ho ?hcd ?hbind ?hloc ?h ?hcell ?hd1 ?hco ?hgen ?hk; (case ho => k_is); (case hcd => k_is); (case hbind => first | exact fun _ _ => BindsTo.of_eq rfl | exact fun _ X' => binds_K X' rfl (by k_is) rfl rfl rfl); (case hloc => exact locs rfl); (case hcell => decide); (case hd1 => decide); (case hco => exact rfl); (case hgen => exact rfl); (case hk => exact rfl))
  intro kx
  revert h0 h1
  revert w ra vs row i t leg kx
  refine seal8 (dW, default, default, default, default, default, default, dCx) ?_
  generalize sl8_0 _ _ = w, sl8_1 _ _ = ra, sl8_2 _ _ = vs, sl8_3 _ _ = row, sl8_4 _ _ = i, sl8_5 _ _ = t, sl8_6 _ _ = leg, sl8_7 _ _ = kx
  intro h0 h1
  intro B F N X T hdp hun hP
  have _ : Dm := Dm.mk
  have _ : Rim := Rim.mk
  k_with_none
  k_with "@KswEnd" => ((k_here; k_extra "wend"))
  k_with "@exec While BoolOp cons nil" => ((k_here; k_extra "while"))
  k_with "@compareOp In str ref" => ((k_here; (with_reducible show wpAny _ _ (compareOp CmpOp.In (Value.str _ _) (Value.ref _)) _ _ _); k_dflt (refine' in_tuple_strs (topTup (by k_asm) (by k_asm) ?e_q9) ?k2_q9 ?_; (case e_q9 => k_is); (case k2_q9 => (repeat constructor); done))))
  k_with "@binaryOp Add ref ref" => ((k_here; k_extra "add"))
  k_with "@call builtin:len" => ((k_here; k_dflt (refine row_len (by k_asm) (by with_reducible assumption) ?_); intro t9 tk9); (all_goals (try ((with_reducible show wpAny _ _ _ _ _ _); (try revert t9); (try revert tk9); intros))))
  k_with "@subscriptTail" => ((k_here; (with_reducible show wpAny _ _ (subscriptTail _ _ (Value.ref _) (Value.int _ _)) _ _ _); (with_unfolding_all first
      | (refine' row_item ?k1_q9 ?k2_q9 ?k3_q9 ?k4_q9 ?_ ?k6_q9; (case k2_q9 => with_reducible assumption); (case k1_q9 => k_asm); (case k3_q9 => lia); (case k4_q9 => lia); (case k6_q9 => with_unfolding_all rfl); k_whole; intro a9 t9 u9 hT9)
      | (refine' tup_item ?k1_q9 ?k2_q9 ?k3_q9 ?k4_q9 ?k5_q9 ?k6_q9 ?_ ?k7_q9; (case k2_q9 => with_reducible assumption); (case k1_q9 => k_asm); (case k3_q9 => decide); (case k4_q9 => decide); (case k5_q9 => exact rfl); (case k6_q9 => exact rfl); (case k7_q9 => with_unfolding_all rfl); k_whole))); (all_goals (try ((with_reducible show wpAny _ _ _ _ _ _); (try revert a9); (try revert t9); (try revert u9); (try revert hT9); intros))))
  k_with "@call ref" => ((k_here; (with_reducible show wpAny _ _ (call (Value.ref 338) _) _ _ _); k_dflt (refine' Ctr.useV (c_lconj _ _ _ _ _ _ ?q1_q9 ?q2_q9) ?k1_q9 ?k2_q9 ?k3_q9 ?k4_q9 ?k5_q9 ?k6_q9 ?k7_q9 ?k8_q9 ?k9_q9 ?_; (case k1_q9 => k_asm); (case k2_q9 => k_asm); (case k3_q9 => k_asm); (case k4_q9 => k_asm); (case k5_q9 => k_asm); (case k6_q9 => first | exact rfl | assumption); (case k7_q9 => exact RowAt.mono _ _ (Fr.keep (by k_asm)) (by assumption)); (case q1_q9 => lia); (case q2_q9 => lia); (case k8_q9 => ktr_room); (case k9_q9 => ktr_units)); intro h9 tk9 st9 F9 N9; (try k_sweep); (try k_fold)); (all_goals (try ((with_reducible show wpAny _ _ _ _ _ _); (try revert h9); (try revert tk9); (try revert st9); (try revert F9); (try revert N9); intros))))
  k_with "@call ref" => ((k_here; (with_reducible show wpAny _ _ (call (Value.ref 345) _) _ _ _); k_dflt (refine' Ctr.useV (c_lpic _ _ _ _ _ _ ?q1_q9 ?q2_q9) ?k1_q9 ?k2_q9 ?k3_q9 ?k4_q9 ?k5_q9 ?k6_q9 ?k7_q9 ?k8_q9 ?k9_q9 ?_; (case k1_q9 => k_asm); (case k2_q9 => k_asm); (case k3_q9 => k_asm); (case k4_q9 => k_asm); (case k5_q9 => k_asm); (case k6_q9 => first | exact rfl | assumption); (case k7_q9 => exact RowAt.mono _ _ (Fr.keep (by k_asm)) (by assumption)); (case q1_q9 => lia); (case q2_q9 => lia); (case k8_q9 => ktr_room); (case k9_q9 => ktr_units)); intro h9 tk9 st9 F9 N9; (try k_sweep); (try k_fold)); (all_goals (try ((with_reducible show wpAny _ _ _ _ _ _); (try revert h9); (try revert tk9); (try revert st9); (try revert F9); (try revert N9); intros))))
  k_with "@compareOp NotIn bool ref" => ((k_here; k_dflt (refine notin_bools (bs := [_, _, _, _, _, _, _]) (by is_list) (by rfl) ?_)))
  k_with "@compareOp NotIn bool ref" => ((k_here; k_dflt (refine notin_bools (bs := [_, _, _, _]) (by is_list) (by rfl) ?_)))
  k_with "@binaryOp Add str str" => ((k_here; k_extra "addstr"))
  k_with "@call ref" => ((k_here; (with_reducible show wpAny _ _ (call (Value.ref 319) _) _ _ _); k_dflt (refine' CtrM.use (c_ljoins _) ?k1_q9 ?k2_q9 ?k3_q9 ?k4_q9 ?kM_q9 ?k5_q9 ?k6_q9 ?k7_q9 ?k8_q9 ?k9_q9 ?_; (case k1_q9 => k_asm); (case k2_q9 => k_asm); (case k3_q9 => k_asm); (case k4_q9 => k_asm); (case kM_q9 => exact List.forall_mem_nil _); (case k5_q9 => k_asm); (case k6_q9 => first | exact rfl | assumption); (case k7_q9 => trivial); (case k8_q9 => ktr_room); (case k9_q9 => ktr_units); intro r9 h9 tk9 mu9 F9 N9 rest9 hr9; (obtain ⟨aj9, vj9, nj9, he9, hm9, hj9⟩ := hr9; subst he9; subst hm9; (have N8 := news_join N9 (fun p hp => rest9 p hp (by simp))); clear rest9; (try simp only [List.cons_append, List.nil_append] at N8); (try k_sweep)); (try k_fold))); (all_goals (try ((with_reducible show wpAny _ _ _ _ _ _); (try revert r9); (try revert h9); (try revert tk9); (try revert mu9); (try revert F9); (try revert N9); (try revert rest9); (try revert hr9); (try revert aj9); (try revert vj9); (try revert nj9); (try revert he9); (try revert hm9); (try revert hj9); (try revert N8); intros))))
  k_with "@compareOp NotEq ref ref" => ((k_here; k_dflt (refine' ne_tup2 ?k1_q9 ?k2_q9 ?k3_q9 ?_; (case k1_q9 => exact News.isTup (by k_asm) (by k_mem)); (case k2_q9 => exact News.isTup (by k_asm) (by k_mem)); (case k3_q9 => ktr_units))))
  k_with "@compareOp NotEq ref ref" => ((k_here; k_dflt (refine' ne_nilL ?k1_q9 ?k2_q9 ?k3_q9 ?_; (case k1_q9 => is_list); (case k2_q9 => is_list); (case k3_q9 => ktr_units))))
  k_with "@compareOp In str ref" => ((k_here; (with_reducible show wpAny _ _ (compareOp CmpOp.In (Value.str _ _) (Value.ref _)) _ _ _); k_dflt (refine in_list_strs (ys := joinsL) (by is_list) (by assumption) ?_)))
  k_with "k0" => (k_here; (with_reducible show wpAny _ _ (callWith _ (Value.ref _) _ (backTo _ (starEach [] _)) []) _ _ _); k_dflt (refine' callWith_K0 ?k1_q9 ?k2_q9 ?_; (case k1_q9 => first | with_reducible assumption | exact Frag.In.keeps (by with_reducible assumption) (Fr.keep (by with_reducible assumption))); (case k2_q9 => k_is); k_whole))
  k_with "fold" => (k_fold; (with_reducible rename Dm => d9); revert d9; revert ek; revert qk; intro qk ek _)
  k_with "seal0" => k_extra "seal"
  k_with "seal" =>
    (with_reducible show wpAny _ _ (execs (_ :: _) _) _ _ _)
    (try k_extra "preseal")
    (fail_if_success (have y9 := ‹_›; (with_reducible have y8 : Rim := y9)))
    (repeat ((fail_if_success (have y9 := ‹_›; (with_reducible have y8 : Rim := y9))); first | ((fail_if_success (have y9 := ‹_›; have y8 : (_ : Prop) := y9)); clear (‹_›)) | revert (‹_›)))
    (repeat (first
      | ((with_reducible refine seal2 dHT ?_); (generalize sl2_0 _ _ = z8, sl2_1 _ _ = z7))
      | ((with_reducible refine seal1 dHp ?_); (generalize eps _ _ = z8))
      | ((with_reducible refine seal1 (0 : Nat) ?_); (generalize eps _ _ = z8))
      | ((with_reducible refine seal1 default ?_); (generalize eps _ _ = z8))
      | (with_reducible intro _)))
    ((with_reducible rename Rim => m9); revert m9; intro _)

  have hl := hP.2.2.1
  have hll := hP.2.1
  have hL := hP.1
  k_with "while" =>
    k_dflt (refine' ksw_while (σ := Int × Tok) (fun _ => []) (fun c => [(Str.ofString "flags", .int c.1 c.2)]) (fun _ => True) [] (fun k => 0 ≤ k.1 ∧ k.1 ≤ i ∧ (riL row i.toNat : Int) = k.1 + riL row (i - k.1).toNat) (fun k => (i - k.1).toNat) (_, _) ?F ?N ?Fa ?hk ?hp ?turn; (case F => k_asm); (case hk => kst_all); (case N => exact News.nil); (case Fa => exact True.intro); (case hp => (dsimp only; exact ⟨by lia, by lia, by simp⟩)))
    rintro ⟨many, tb⟩ u h tk - ⟨b1, b2, b3⟩ F1 N1
    dsimp only [kstB] at b1 b2 b3 F1 N1 ⊢
    (revert many tb u h tk; refine seal5 (default, default, default, default, default) ?_; generalize sl5_0 _ _ = many, sl5_1 _ _ = tb, sl5_2 _ _ = u, sl5_3 _ _ = h, sl5_4 _ _ = tk; intro b1 b2 b3 F1 N1)
    all_goals (try ((with_reducible rename Rim => m9); revert m9; intro _))
  k_with "addstr" =>
    have hs1 := fun (p : 0 < i) (p2 : i < row.length) => hP.short (i := (i - 1).toNat) (by lia)
    have hs2 := fun (p2 : i < row.length) => hP.short (i := i.toNat) (by lia)
    replace hs1 := hs1 (by lia) (by lia)
    replace hs2 := hs2 (by lia)
    have hs3 : (Str.ofString " ").length = 1 := rfl
    refine PyProof.Rows.add_str ?_ (by (try simp only [Str.length_append]); rw [PySem.sizeLine_eq]; lia)
    intro ta9 tk9
  k_with "add" =>
    k_dflt (refine' add_arrays ?F ?N ?l ?b ?_ ?z; (case F => k_asm); (case N => k_asm); (case l => exact News.isList (by k_asm) (by k_mem)); (case b => exact News.isList (by k_asm) (by k_mem)); (case z => rw [PySem.sizeLine_eq]; exact Nat.le_of_ble_eq_true rfl))
    intro hA FA NA
  k_with "wend" =>
    refine ksw_end (_, _) (by assumption) (by assumption) (by kst_in) (by kst_facts) (by kst_all) (by ksw_same) ?_ ?_
    all_goals dsimp only
    · have := riL_y (row := row) (i := i) (m := many) (by lia) (by lia) (by assumption)
      refine ⟨by lia, by lia, by lia⟩
    · lia
  ((try ((with_reducible rename Rim => m9); revert m9; intro _)); k_steps)
  all_goals (try dsimp only)
  all_goals (refine Done.mk (by assumption) (congrArg Value.bool ?_))
  all_goals first
    | (unfold lawBrk; rw [if_pos (by lia), hll]; done)
    | (unfold lawBrk; rw [if_neg (by lia), if_pos (Or.inl (by assumption))]; done)
    | (unfold lawBrk; rw [if_neg (by lia), if_pos (Or.inr (by assumption))]; done)
    | ((have hm9 : (riL row i.toNat : Int) = many := by first | (have := riL_n (row := row) (i := i) (m := many) (by lia) (by lia) (by assumption); lia) | (rw [show (i - many).toNat = 0 by lia] at b3; simp only [riL] at b3; lia)); first
      | (rw [flag_y (by assumption) hm9]; unfold lawBrk; rw [if_neg (by lia), if_neg (by simp only [*, or_false]; decide), if_pos (by assumption)]; done)
      | (rw [flag_y (by assumption) hm9]; unfold lawBrk; rw [if_neg (by lia), if_neg (by simp only [*, or_false]; decide), if_neg (ne_true_of_eq_false (by assumption))]; done)
      | (unfold lawBrk; rw [if_neg (by lia), if_neg (by simp only [*, or_false]; decide), if_pos (by assumption)]; simp only [*, Bool.false_and]; done)
      | (unfold lawBrk; rw [if_neg (by lia), if_neg (by simp only [*, or_false]; decide), if_neg (ne_true_of_eq_false (by assumption))]; simp only [*, Bool.false_and]; done))
theorem RowAt.drop {ra rb : Addr} {vs : List Value} {row : List Sign} {h₀ h : Heap} {L : Addr} {m : Str → Option Value} {k : Nat} (R : RowAt ra vs row h₀) (F : Fr h₀ L h m) (hl : h.IsList rb (vs.drop k).toArray) : RowAt rb (vs.drop k) (row.drop k) h := by
  have R' := RowAt.mono _ _ F.keep R
  refine ⟨hl, by rw [List.length_drop, List.length_drop, R.2.1], by rw [List.length_drop]; have := R.2.2.1; lia, fun i hi => ?_⟩
  rw [List.length_drop] at hi
  obtain ⟨v, hv, hs⟩ := R'.2.2.2 (k + i) (by lia)
  refine ⟨v, by rw [List.getElem?_drop]; exact hv, ?_⟩
  have e : (row.drop k).getD i s0 = row.getD (k + i) s0 := by rw [List.getD_eq_getElem?_getD, List.getD_eq_getElem?_getD, List.getElem?_drop]
  rw [e]; exact hs
section
variable {prog : Program} {w : World} {A : Around} {h₀ : Heap} {L : Addr} {m : Str → Option Value} {env : Env} {elt : PySem.Expr} {x : Str} {scope : Scope} {cl : List (Str × Addr)} {s : Shared} {S : List (Addr × Obj) → Prop} {P : Nat → Value → Prop} {Fin : List Value → List (Addr × Obj) → Prop} {news : List (Addr × Obj)}
/-- a comprehension without a test, over ints, its items bools -/
theorem restB {n : Nat} {ks : List Int} (f : Int → Bool) (hks : ks.length = n) (hP : ∀ i v, i < n → P i v → ∃ k t, ks[i]? = some k ∧ v = .int k t) (hS : S news)
    (elem : ∀ k t I oI C oC D m₂ ys h tk (E' : Value → Shared → Prop), k ∈ ks → LCg.NsObj oC m₂ → m₂ x = some (.int k t) → Fr h₀ L h m → News h₀ L h ((I, oI) :: (C, oC) :: (D, LCg.lst ys) :: news) → LCg.Off3 I C D news → ((@Ne Nat I C) ∧ (@Ne Nat I D) ∧ (@Ne Nat C D)) →
      wpAny (model prog w) A (eval elt (compEnvC scope cl C env)) (ElemEnd h₀ L m ((I, oI) :: (C, oC) :: (D, LCg.lst ys) :: news) { s with heap := h, toks := tk } (fun y => y = .bool (f k))) E' { s with heap := h, toks := tk })
    (fin : Fin (ks.map fun k => Value.bool (f k)) news) : LCg.CompRest prog w A h₀ L m env elt x scope cl s S P Fin n 0 [] news := by
  have key : ∀ (j i : Nat) (ys : List Value), i + j = n → ys = (ks.take i).map (fun k => Value.bool (f k)) → LCg.CompRest prog w A h₀ L m env elt x scope cl s S P Fin j i ys news := by
    intro j
    induction j with
    | zero =>
      intro i ys hi hy
      have e : i = ks.length := by lia
      subst e
      rw [List.take_length] at hy
      subst hy
      exact LCg.CompRest.zero fin
    | succ j ih =>
      intro i ys hi hy
      refine LCg.CompRest.succ ?_
      intro v I oI C oC D m₂ h tk E' hv hC hx F N off ne
      obtain ⟨k, t, hk, hv'⟩ := hP i v (by lia) hv
      rw [hv'] at hx
      refine wpAny_mono (elem k t I oI C oC D m₂ ys h tk E' (List.mem_of_getElem? hk) hC hx F N off ne) (fun y s₂ hq => ?_) fun _ _ e => e
      obtain ⟨hy', h', tk', e, F', N'⟩ := hq
      subst e
      refine ⟨h', tk', news, rfl, F', N', off, hS, ?_⟩
      refine ih (i + 1) _ (by lia) ?_
      rw [hy', hy, List.take_add_one, hk]
      simp
  exact key n 0 [] (by lia) (by simp)
end
theorem eq_bools {prog : Program} {w : World} {A : Around} {E : Value → Shared → Prop} {s : Shared} {l b : Addr} {xs ys : List Bool} {Q : Value → Shared → Prop} (hl : s.heap.IsList l (xs.map Value.bool).toArray) (hb : s.heap.IsList b (ys.map Value.bool).toArray) (hn : xs.length = ys.length) (hu : A.units < cLine) (h : Q (.bool (decide (xs = ys))) s) :
    wpAny (model prog w) A (compareOp .Eq (.ref l) (.ref b)) Q E s := by
  refine SeqAt.eq_listAt (e := fun j => xs.getD j false == ys.getD j false) hl hb (by simp [hn]) hu (fun j h1 h2 => ?_) ?_
  · have h1' : j < xs.length := by simpa using h1
    have h2' : j < ys.length := by simpa using h2
    have := SeqAt.EqAt.bool_bool (A := A.in1) (s := s) xs[j] ys[j]
    simpa [List.getD_eq_getElem?_getD, h1', h2'] using this
  · have e : ((List.range (xs.map Value.bool).toArray.size).all fun j => xs.getD j false == ys.getD j false) = decide (xs = ys) := by
      rw [Bool.eq_iff_iff, decide_eq_true_eq, List.all_eq_true]
      simp only [List.size_toArray, List.length_map, List.mem_range, beq_iff_eq]
      constructor
      · intro hh
        apply List.ext_getElem hn
        intro i h1 h2
        have := hh i h1
        simpa [List.getD_eq_getElem?_getD, h1, h2] using this
      · rintro rfl i _
        rfl
    rw [e]; exact h
theorem eq_boolsF {prog : Program} {w : World} {A : Around} {E : Value → Shared → Prop} {s : Shared} {l b : Addr} {ks : List Int} {f g : Int → Bool} {Q : Value → Shared → Prop} (hl : s.heap.IsList l (ks.map fun k => Value.bool (f k)).toArray) (hb : s.heap.IsList b (ks.map fun k => Value.bool (g k)).toArray) (hu : A.units < cLine) (h : Q (.bool (decide (ks.map f = ks.map g))) s) :
    wpAny (model prog w) A (compareOp .Eq (.ref l) (.ref b)) Q E s :=
  eq_bools (xs := ks.map f) (ys := ks.map g) (by simpa [Function.comp_def] using hl) (by simpa [Function.comp_def] using hb) (by simp) hu h
local macro_rules | `(tactic| walk_at "compareOp Eq ref ref") => `(tactic| k_extra "@compareOp Eq ref ref")
def cutR (row : List Sign) (cut : Int) (leg : Bool) : Bool :=
  lawBrk row cut leg && decide ((rangeKs 1 (row.length - cut.toNat - 1)).map (fun a => lawBrk (row.drop cut.toNat) a leg) = (rangeKs 1 (row.length - cut.toNat - 1)).map (fun a => lawBrk row (cut + a) leg))
theorem c_cut : ∀ (w : World) (ra : Addr) (vs : List Value) (row : List Sign) (cut : Int) (t : Tok) (leg : Bool), (0 ≤ cut) → (cut ≤ row.length) → Ctr w 357 8 [.ref ra, .int cut t, .bool leg] (RowAt ra vs row) (fun v => v = .bool (cutR row cut leg)) := by
  intro w ra vs row cut t leg h0 h1
  k_dflt (refine' Ctr.bodyCX (binds := [(Str.ofString "row", .ref ra), (Str.ofString "cut", .int cut t), (Str.ofString "is_legacy", .bool leg)]) ?ho ?hcd ?hbind ?hkind ?hnd ?h ?hd1 ?hco ?hgen ?hk; (case ho => k_is); (case hcd => k_is); (case hbind => first | exact fun _ _ => BindsTo.of_eq rfl | exact fun _ X' => binds_K X' rfl (by k_is) rfl rfl rfl); (case hkind => exact rfl); (case hnd => decide +kernel); (case hd1 => decide); (case hco => exact rfl); (case hgen => exact rfl); (case hk => exact rfl))
  intro kx
  revert h0 h1
  revert w ra vs row cut t leg kx
  refine seal8 (dW, default, default, default, default, default, default, dCx) ?_
  generalize sl8_0 _ _ = w, sl8_1 _ _ = ra, sl8_2 _ _ = vs, sl8_3 _ _ = row, sl8_4 _ _ = cut, sl8_5 _ _ = t, sl8_6 _ _ = leg, sl8_7 _ _ = kx
  intro h0 h1
  w_top off
  intro cells B F N Y X T hdp hun hP
  have _ : Dm := Dm.mk
  have _ : Rim := Rim.mk
  k_with_none
  k_with "@CompSrc" => ((k_here; k_extra "src"))
  k_with "@compareOp Eq ref ref" => ((k_here; k_dflt (refine' eq_boolsF ?k1_q9 ?k2_q9 ?k3_q9 ?_; (case k1_q9 => is_list); (case k2_q9 => is_list); (case k3_q9 => ktr_units))))
  k_with "@eval ListComp" => ((k_here; (with_reducible show wpAny _ _ (eval (Expr.ListComp _ [{ target := _, iter := _, ifs := [], is_async := _ }] _ _) _) _ _ _); k_dflt (refine LCg.ListComp_U (F₀ := by k_asm) (by with_unfolding_all rfl) (by decide) (by rfl) (by decide) (by rfl) ?_)))
  k_with "@call ref" => ((k_here; (with_reducible show wpAny _ _ (call (Value.ref 352) _) _ _ _); k_dflt (refine' Ctr.useV (c_lbrk _ _ _ _ _ _ _ ?q1_q9 ?q2_q9) ?k1_q9 ?k2_q9 ?k3_q9 ?k4_q9 ?k5_q9 ?k6_q9 ?k7_q9 ?k8_q9 ?k9_q9 ?_; (case k1_q9 => k_asm); (case k2_q9 => k_asm); (case k3_q9 => k_asm); (case k4_q9 => k_asm); (case k5_q9 => k_asm); (case k6_q9 => first | exact rfl | assumption); (case k7_q9 => first | exact RowAt.mono _ _ (Fr.keep (by k_asm)) (by with_reducible assumption) | exact RowAt.drop (by with_reducible assumption) (by k_asm) (News.isList (by k_asm) (by k_mem))); (case q1_q9 => lia); (case q2_q9 => first | lia | (rw [List.length_drop]; lia)); (case k8_q9 => ktr_room); (case k9_q9 => ktr_units)); intro h9 tk9 st9 F9 N9; (try k_sweep); (try k_fold)); (all_goals (try ((with_reducible show wpAny _ _ _ _ _ _); (try revert h9); (try revert tk9); (try revert st9); (try revert F9); (try revert N9); intros))))
  k_with "@call builtin:len" => ((k_here; (with_reducible show wpAny _ _ (call (Value.builtin "len") [Value.ref _]) _ _ _); k_extra "len"))
  k_with "k0" => (k_here; (with_reducible show wpAny _ _ (callWith _ (Value.ref _) _ (backTo _ (starEach [] _)) []) _ _ _); k_dflt (refine' callWith_K0 ?k1_q9 ?k2_q9 ?_; (case k1_q9 => first | with_reducible assumption | exact Frag.In.keeps (by with_reducible assumption) (Fr.keep (by with_reducible assumption))); (case k2_q9 => k_is); k_whole))
  k_with "fold" => (k_fold; (with_reducible rename Dm => d9); revert d9; revert ek; revert qk; intro qk ek _)
  k_with "seal0" => k_extra "seal"
  k_with "seal" =>
    (with_reducible show wpAny _ _ (execs (_ :: _) _) _ _ _)
    (try k_extra "preseal")
    (fail_if_success (have y9 := ‹_›; (with_reducible have y8 : Rim := y9)))
    (repeat ((fail_if_success (have y9 := ‹_›; (with_reducible have y8 : Rim := y9))); first | ((fail_if_success (have y9 := ‹_›; have y8 : (_ : Prop) := y9)); clear (‹_›)) | revert (‹_›)))
    (repeat (first
      | ((with_reducible refine seal2 dHT ?_); (generalize sl2_0 _ _ = z8, sl2_1 _ _ = z7))
      | ((with_reducible refine seal1 dHp ?_); (generalize eps _ _ = z8))
      | ((with_reducible refine seal1 (0 : Nat) ?_); (generalize eps _ _ = z8))
      | ((with_reducible refine seal1 default ?_); (generalize eps _ _ = z8))
      | (with_reducible intro _)))
    ((with_reducible rename Rim => m9); revert m9; intro _)

  k_cells Y
  k_extra "seal0"
  (with_reducible rename News _ _ _ _ => N)
  (with_reducible rename Fr _ _ _ _ => F)
  have hl := hP.2.2.1
  have hll := hP.2.1
  have hL := hP.1
  have hsl : slicePick vs.toArray (some cut) none none = (vs.drop cut.toNat).toArray := by rw [show (some cut : Option Int) = some (cut.toNat : Int) from congrArg some (by lia), slicePick_from']
  have hsz : (vs.drop cut.toNat).toArray.size = row.length - cut.toNat := by simp [hll]
  k_with "len" =>
    (try simp only [hsl] at *)
    k_dflt (refine' kun_lenL (k := ((row.length - cut.toNat : Nat) : Int)) ?k1 ?k2 ?k3 ?_; (case k1 => exact News.isList (by k_asm) (by k_mem)); (case k2 => exact congrArg _ hsz); (case k3 => lia))
  k_with "src" =>
    first
      | ((with_reducible show LCg.CompSrc _ _ _ _ _ _ _ (Expr.Call _ [Expr.Name _ _, Expr.Name _ _, Expr.Name _ _] _ _) _ _ _ _ _ _)
         k_dflt (refine LCg.CompSrc.range (n := row.length - cut.toNat - 1) (by rfl) (by k_asm) (by k_asm) (by assumption) (small_one (by lia) (by lia) (by lia) (by lia)) ((rangeSize_nat _ _).trans (by lia)) (by rw [PySem.sizeLine_eq]; lia) ?_)
         intro g'
         refine restB (ks := rangeKs 1 (row.length - cut.toNat - 1)) (fun a => lawBrk (row.drop cut.toNat) a leg) (rangeKs_length _ _) (range_items 1 _) trivial (fun k t I oI C oC D m₂ ys h tk E' hk hC hx F N off ne => ?_) ?_)
      | (k_dflt (refine LCg.CompSrc.range (n := row.length - cut.toNat - 1) (by rfl) (by k_asm) (by k_asm) (by assumption) (small_one (by lia) (by lia) (by lia) (by lia)) ((rangeSize_nat _ _).trans (by lia)) (by rw [PySem.sizeLine_eq]; lia) ?_)
         intro g'
         refine restB (ks := rangeKs 1 (row.length - cut.toNat - 1)) (fun a => lawBrk row (cut + a) leg) (rangeKs_length _ _) (range_items 1 _) trivial (fun k t I oI C oC D m₂ ys h tk E' hk hC hx F N off ne => ?_) ?_)
    obtain ⟨hk0, hk1⟩ := mem_rangeKs hk
  ((try ((with_reducible rename Rim => m9); revert m9; intro _)); k_steps)
  all_goals (try dsimp only)
  all_goals first
    | exact ElemEnd.mk (by assumption) (by assumption) rfl
    | (refine Done.mk (by assumption) (congrArg Value.bool ?_); unfold cutR; simp only [*, Bool.true_and, Bool.false_and]; done)
def due (row : List Sign) (n : Nat) (leg : Bool) : List Int := (rangeKs 0 (n + 1)).filter (fun i => lawBrk row i leg)
/-- the readings agree: what the law asks of the places of a text -/
structure PlOk (D : Db) (tx : List Int) (row : List Sign) (leg : Bool) : Prop where
  h0 : row.length = tx.length
  h1 : askd D tx leg = due row tx.length leg
  h2 : runS D leg tx SS0 0 = (due row tx.length leg).filter (fun i => decide (i < (tx.length : Int)))
  h3 : plcs D tx leg = due row tx.length leg
  h5 : ∀ i : Int, 0 ≤ i → i < tx.length → ∃ r, (due row tx.length leg).filter (fun p => decide (p > i)) = nxt D tx leg i :: r
  h6 : ∀ i : Int, 0 ≤ i → i < tx.length → ∃ r, (due row tx.length leg).filter (fun p => decide (p < i + 1)) = r ++ [prv D tx leg (i + 1 - 1).toNat]
theorem mt_one {a : Addr} {own : List (Addr × Obj)} (h : own.map (·.1) = [a]) : ∃ p, own = [p] := by
  cases own with
  | nil => cases h
  | cons p r =>
    cases r with
    | nil => exact ⟨p, rfl⟩
    | cons q r => cases h
theorem mt_two {a b : Addr} {own : List (Addr × Obj)} (h : own.map (·.1) = [a, b]) : ∃ p q, own = [p, q] := by
  cases own with
  | nil => cases h
  | cons p r =>
    cases r with
    | nil => cases h
    | cons q r =>
      cases r with
      | nil => exact ⟨p, q, rfl⟩
      | cons x r => cases h
/-- a turn's end -/
def TurnF {σ : Type} (h₀ : Heap) (L : Addr) (s : Shared) (Q : Flow → Shared → Prop) (own : List (Addr × Obj)) (Led : σ → List (Addr × Obj)) (ps : σ → List (Str × Value)) (stored : List Str) (m₀ : Str → Option Value) (K : σ → Prop) (f : Flow) (s' : Shared) : Prop :=
  match f with
  | .ret v => Q (.ret v) s'
  | .brk => Q .next s'
  | _ => ∃ c' h' tk' m' news', s' = { s with heap := h', toks := tk' } ∧ Fr h₀ L h' m' ∧ News h₀ L h' news' ∧ (∀ p ∈ own, p ∈ news') ∧ (∀ p ∈ Led c', p ∈ news') ∧ (∀ p ∈ Led c', ∀ q ∈ own, @Ne Nat p.1 q.1) ∧ (∀ p ∈ ps c', m' p.1 = some p.2) ∧ (∀ z, (∀ p ∈ ps c', z ≠ p.1) → stored.contains z = false → m' z = m₀ z) ∧ K c'
theorem TurnF.mk {σ : Type} {h₀ : Heap} {L : Addr} {s : Shared} {Q : Flow → Shared → Prop} {own : List (Addr × Obj)} {Led : σ → List (Addr × Obj)} {ps : σ → List (Str × Value)} {stored : List Str} {m₀ : Str → Option Value} {K : σ → Prop} {h' : Heap} {tk' : Nat} {m' : Str → Option Value} {news' : List (Addr × Obj)} (c' : σ)
    (F : Fr h₀ L h' m') (N : News h₀ L h' news') (ho : ∀ p ∈ own, p ∈ news') (hl : ∀ p ∈ Led c', p ∈ news') (hne : ∀ p ∈ Led c', ∀ q ∈ own, @Ne Nat p.1 q.1) (hk : ∀ p ∈ ps c', m' p.1 = some p.2) (hr : ∀ z, (∀ p ∈ ps c', z ≠ p.1) → stored.contains z = false → m' z = m₀ z) (k : K c') :
    TurnF h₀ L s Q own Led ps stored m₀ K .next { s with heap := h', toks := tk' } := ⟨c', h', tk', m', news', rfl, F, N, ho, hl, hne, hk, hr, k⟩
section
variable {prog : Program} {w : World} {A : Around} {E : Value → Shared → Prop} {s : Shared} {env : Env} {h₀ : Heap} {target : PySem.Expr} {body : List Stmt} {Q : Flow → Shared → Prop}
theorem mt_core {σ : Type} {I : Addr} {fp wr : List Addr} {n : Nat} {P Md : Nat → Value → Heap → Prop} {St : Nat → Heap → Prop} {m₀ : Str → Option Value} {hp : Heap} {tk0 : Nat} (W : KTurns prog w A target I fp wr n P Md St)
    (ownA : List Addr) (Led : σ → List (Addr × Obj)) (ps : σ → List (Str × Value)) (stored : List Str) (K : Nat → σ → Prop) (c₀ : σ)
    (hL : env.locals ∉ fp) (hwr : ∀ b ∈ wr, b ∈ ownA) (hown : ∀ b ∈ ownA, b ∈ fp ∧ h₀.get? b = none) (hobj : ∀ i h, St i h → ∃ own : List (Addr × Obj), own.map (·.1) = ownA ∧ ∀ p ∈ own, h.get? p.1 = some p.2)
    (hfp : ∀ b ∈ fp, b ∈ ownA ∨ (∃ o, h₀.get? b = some o) ∨ ∃ o, ∀ c, (b, o) ∈ Led c) (hst : St 0 hp) (F : Fr h₀ env.locals hp m₀) (N : News h₀ env.locals hp (Led c₀)) (hoff : ∀ p ∈ Led c₀, p.1 ∉ ownA) (hk : ∀ p ∈ ps c₀, m₀ p.1 = some p.2) (hK : K 0 c₀)
    (turn : ∀ i v c (u : Str → Option Value) h tk own, i < n → P i v h → K i c → own.map (·.1) = ownA → (∀ p ∈ Led c, ∀ q ∈ own, @Ne Nat p.1 q.1) → Fr h₀ env.locals h (kstB (fun z => if stored.contains z then u z else m₀ z) (ps c)) → News h₀ env.locals h (own ++ Led c) →
      wpAny (model prog w) A (assign target env v) (fun _ s₃ => wpAny (model prog w) A (execs body env) (TurnF h₀ env.locals { s with heap := h, toks := tk } Q own Led ps stored m₀ (K (i + 1))) E s₃) E { s with heap := h, toks := tk })
    (done : ∀ c (u : Str → Option Value) h tk, K n c → Fr h₀ env.locals h (kstB (fun z => if stored.contains z then u z else m₀ z) (ps c)) → News h₀ env.locals h (Led c) → Q .next { s with heap := h, toks := tk }) :
    TurnsAt prog w A h₀ env target body Q E (.ref I) { s with heap := hp, toks := tk0 } := by
  let J : Nat → (Str → Option Value) → List (Addr × Obj) → Prop := fun i m₁ news₁ => ∃ c, news₁ = Led c ∧ (∀ p ∈ Led c, p.1 ∉ ownA) ∧ (∀ p ∈ ps c, m₁ p.1 = some p.2) ∧ (∀ z, (∀ p ∈ ps c, z ≠ p.1) → stored.contains z = false → m₁ z = m₀ z) ∧ K i c
  refine ⟨I, fp, wr, n, P, Md, St, m₀, Led c₀, J, rfl, W, hL, fun b hb => (hown b (hwr b hb)).2, fun p hp hb => hoff p hp (hwr _ hb), hst, F, N, ⟨c₀, rfl, hoff, hk, fun _ _ _ => rfl, hK⟩, ?_, ?_⟩
  · rintro i v m₁ news₁ h₁ tk₁ own hin hPi ⟨c, rfl, hc1, hc2, hc3, hc4⟩ hoff₁ howns hget hall hst₁ F₁ N₁
    obtain ⟨its, hmap, hval⟩ := hobj (i + 1) h₁ hst₁
    have inA : ∀ p ∈ its, p.1 ∈ ownA := fun p hp => hmap ▸ List.mem_map_of_mem hp
    have N₂ : News h₀ env.locals h₁ (its ++ Led c) := fun p hp => by
      rcases List.mem_append.mp hp with hp | hp
      · have h1 := hown _ (inA p hp)
        exact N₁ _ (List.mem_append_left _ (hall p.1 h1.1 h1.2 p.2 (hval p hp)))
      · exact N₁ _ (List.mem_append_right _ hp)
    refine wpAny_mono (turn i v c m₁ h₁ tk₁ its hin hPi hc4 hmap (fun p hp q hq e => hc1 p hp (by rw [show p.1 = q.1 from e]; exact inA q hq)) (ksw_fr hc2 hc3 F₁) N₂) (fun _ s₂ h₂ => wpAny_mono h₂ (fun f s₃ p => ?_) fun _ _ e => e) fun _ _ e => e
    have fin : TurnF h₀ env.locals { s with heap := h₁, toks := tk₁ } Q its Led ps stored m₀ (K (i + 1)) .next s₃ → LoopStepU h₀ env.locals wr own (J (i + 1)) { s with heap := h₁, toks := tk₁ } .next s₃ := by
      rintro ⟨c', h', tk', m', news', rfl, F', N', ho, hl, hne, hk', hr', k'⟩
      have off' : ∀ p ∈ Led c', p.1 ∉ ownA := fun p hp hb => by
        obtain ⟨q, hq, e⟩ := List.mem_map.mp (hmap ▸ hb)
        exact hne p hp q hq e.symm
      refine ⟨rfl, h', tk', m', Led c', rfl, F', ?_, fun p hp hb => off' p hp (hwr _ hb), c', rfl, off', hk', hr', k'⟩
      rintro ⟨pa, po⟩ hp
      rcases List.mem_append.mp hp with hp | hp
      · have h2 : h₁.get? pa = some po := hget _ hp
        have hfree : h₀.get? pa = none := (N₁ _ (List.mem_append_left _ hp)).2.2
        rcases hfp pa (howns _ hp) with h3 | ⟨o, h3⟩ | ⟨o, h3⟩
        · obtain ⟨⟨qa, qo⟩, hq, e⟩ := List.mem_map.mp (hmap ▸ h3)
          have e' : qa = pa := e
          subst e'
          have h5 : qo = po := Option.some.inj ((hval _ hq).symm.trans h2)
          subst h5
          exact N' _ (ho _ hq)
        · rw [hfree] at h3; cases h3
        · have h4 : h₁.get? pa = some o := (N₁ _ (List.mem_append_right _ (h3 c))).1
          have h5 : o = po := Option.some.inj (h4.symm.trans h2)
          subst h5
          exact N' _ (hl _ (h3 c'))
      · exact N' _ (hl _ hp)
    cases f with
    | ret v => exact .ret p
    | brk => exact .brk p
    | next => exact .next (fin p)
    | cont => exact .cont (fin p)
  · rintro h' tk m' news' F' N' _ ⟨c, rfl, _, hc2, hc3, hc4⟩
    exact done c m' h' tk hc4 (ksw_fr hc2 hc3 F') N'
theorem mt_new {L b : Addr} {h : Heap} {m : Str → Option Value} (F : Fr h₀ L h m) (hb : h.objs.size ≤ b) : h₀.get? b = none := by
  cases e : h₀.get? b with
  | none => rfl
  | some o => exact absurd (Heap.lt_size (F.keep _ _ e)) (Nat.not_lt.mpr hb)
theorem mt_range {σ : Type} {x : Str} {px : Pos} {r : Addr} {a₀ b₀ : Int} {t₀ u₀ v₀ : Tok} {n : Nat} {m₀ : Str → Option Value} (Led : σ → List (Addr × Obj)) (ps : σ → List (Str × Value)) (stored : List Str) (K : Nat → σ → Prop) (c₀ : σ)
    (hh : A.handled = none) (hr : IsRange s.heap r a₀ b₀ 1 t₀ u₀ v₀) (hsmall : Builtin.Range.small a₀ b₀ 1 = true) (hn : Builtin.Range.rangeSize a₀ b₀ 1 = (n : Int)) (F : Fr h₀ env.locals s.heap m₀) (N : News h₀ env.locals s.heap (Led c₀)) (hk : ∀ p ∈ ps c₀, m₀ p.1 = some p.2) (hK : K 0 c₀)
    (turn : ∀ i c t (u : Str → Option Value) h tk I oI, i < n → K i c → (∀ p ∈ Led c, @Ne Nat p.1 I) → Fr h₀ env.locals h (kstB (fun z => if stored.contains z then u z else m₀ z) (ps c)) → News h₀ env.locals h ((I, oI) :: Led c) →
      wpAny (model prog w) A (assign (.Name x px) env (.int (a₀ + (i : Int)) t)) (fun _ s₃ => wpAny (model prog w) A (execs body env) (TurnF h₀ env.locals { s with heap := h, toks := tk } Q [(I, oI)] Led ps stored m₀ (K (i + 1))) E s₃) E { s with heap := h, toks := tk })
    (done : ∀ c (u : Str → Option Value) h tk, K n c → Fr h₀ env.locals h (kstB (fun z => if stored.contains z then u z else m₀ z) (ps c)) → News h₀ env.locals h (Led c) → Q .next { s with heap := h, toks := tk }) :
    wpAny (model prog w) A (pyIter (.ref r)) (fun it s₂ => TurnsAt prog w A h₀ env (.Name x px) body Q E it s₂) E s := by
  refine wpAny_pyIter_range hr hsmall ?_
  have W := KTurns.ofWalks (target := .Name x px) (Walks.range (prog := prog) (w := w) hh s.heap.objs.size a₀ 1 n).bound (fun i v s Q E st q => wpAny_pure q)
  refine mt_core (tk0 := s.toks) W [s.heap.objs.size] Led ps stored K c₀ ?_ (fun b hb => hb) ?_ ?_ ?_ ?_ (F.push _) (fun p hp => ⟨Heap.get?_push_of_some _ (N p hp).1, (N p hp).2⟩) ?_ hk hK ?_ done
  · intro hm
    exact absurd F.ns.lt ((List.mem_singleton.mp hm) ▸ Nat.lt_irrefl _)
  · intro b hb
    exact ⟨hb, by rw [List.mem_singleton.mp hb]; exact next_is_new F⟩
  · rintro i h st
    exact ⟨[(s.heap.objs.size, _)], rfl, fun p hp => by rw [List.mem_singleton.mp hp]; exact st⟩
  · intro b hb
    exact .inl hb
  · show IsRangeIter _ _ _ _ _
    rw [hn]
    simpa using Heap.get?_push_size _ rfl
  · intro p hp hI
    exact absurd (Heap.lt_size (N p hp).1) ((List.mem_singleton.mp hI) ▸ Nat.lt_irrefl _)
  · rintro i v c u h tk own hi ⟨_, t, rfl⟩ hk' hown hne F₁ N₁
    obtain ⟨⟨I, oI⟩, rfl⟩ := mt_one hown
    have e1 : a₀ + (i : Int) * 1 = a₀ + (i : Int) := by lia
    rw [e1]
    exact turn i c t u h tk I oI hi hk' (fun p hp => hne p hp (I, oI) (.head _)) F₁ N₁
/-- a turn's end where the ledger's addresses stay -/
def TurnG {σ : Type} (h₀ : Heap) (L : Addr) (s : Shared) (Q : Flow → Shared → Prop) (own : List (Addr × Obj)) (Led : σ → List (Addr × Obj)) (ps : σ → List (Str × Value)) (stored : List Str) (m₀ : Str → Option Value) (K : σ → Prop) (f : Flow) (s' : Shared) : Prop :=
  match f with
  | .ret v => Q (.ret v) s'
  | .brk => Q .next s'
  | _ => ∃ c' h' tk' m' news', s' = { s with heap := h', toks := tk' } ∧ Fr h₀ L h' m' ∧ News h₀ L h' news' ∧ (∀ p ∈ own, p ∈ news') ∧ (∀ p ∈ Led c', p ∈ news') ∧ (∀ p ∈ ps c', m' p.1 = some p.2) ∧ (∀ z, (∀ p ∈ ps c', z ≠ p.1) → stored.contains z = false → m' z = m₀ z) ∧ K c'
theorem TurnG.mk {σ : Type} {h₀ : Heap} {L : Addr} {s : Shared} {Q : Flow → Shared → Prop} {own : List (Addr × Obj)} {Led : σ → List (Addr × Obj)} {ps : σ → List (Str × Value)} {stored : List Str} {m₀ : Str → Option Value} {K : σ → Prop} {h' : Heap} {tk' : Nat} {m' : Str → Option Value} {news' : List (Addr × Obj)} (c' : σ)
    (F : Fr h₀ L h' m') (N : News h₀ L h' news') (ho : ∀ p ∈ own, p ∈ news') (hl : ∀ p ∈ Led c', p ∈ news') (hk : ∀ p ∈ ps c', m' p.1 = some p.2) (hr : ∀ z, (∀ p ∈ ps c', z ≠ p.1) → stored.contains z = false → m' z = m₀ z) (k : K c') :
    TurnG h₀ L s Q own Led ps stored m₀ K .next { s with heap := h', toks := tk' } := ⟨c', h', tk', m', news', rfl, F, N, ho, hl, hk, hr, k⟩
theorem TurnG.toF {σ : Type} {L : Addr} {own : List (Addr × Obj)} {Led : σ → List (Addr × Obj)} {ps : σ → List (Str × Value)} {stored : List Str} {m₀ : Str → Option Value} {K : σ → Prop} {f : Flow} {s' : Shared} (h : TurnG h₀ L s Q own Led ps stored m₀ K f s') (hne : ∀ c', ∀ p ∈ Led c', ∀ q ∈ own, @Ne Nat p.1 q.1) : TurnF h₀ L s Q own Led ps stored m₀ K f s' := by
  have key : TurnG h₀ L s Q own Led ps stored m₀ K .next s' → TurnF h₀ L s Q own Led ps stored m₀ K .next s' := by
    rintro ⟨c', h', tk', m', news', e, F, N, ho, hl, hk, hr, k⟩
    exact ⟨c', h', tk', m', news', e, F, N, ho, hl, hne c', hk, hr, k⟩
  cases f with
  | ret v => exact h
  | brk => exact h
  | next => exact key h
  | cont => exact key h
theorem mt_rangeF {σ : Type} {x : Str} {px : Pos} {r : Addr} {a₀ b₀ : Int} {t₀ u₀ v₀ : Tok} {n : Nat} {m₀ : Str → Option Value} (Led : σ → List (Addr × Obj)) (ps : σ → List (Str × Value)) (stored : List Str) (K : Nat → σ → Prop) (c₀ : σ)
    (hh : A.handled = none) (hr : IsRange s.heap r a₀ b₀ 1 t₀ u₀ v₀) (hsmall : Builtin.Range.small a₀ b₀ 1 = true) (hn : Builtin.Range.rangeSize a₀ b₀ 1 = (n : Int)) (F : Fr h₀ env.locals s.heap m₀) (N : News h₀ env.locals s.heap (Led c₀)) (hk : ∀ p ∈ ps c₀, m₀ p.1 = some p.2) (hK : K 0 c₀) (hadr : ∀ c, (Led c).map (·.1) = (Led c₀).map (·.1))
    (turn : ∀ (i : Nat) c t (u : Str → Option Value) h tk I oI, i < n → K i c → (∀ p ∈ Led c, @LT.lt Nat _ p.1 I) → Fr h₀ env.locals h (kstB (fun z => if stored.contains z then u z else m₀ z) (ps c)) → News h₀ env.locals h ((I, oI) :: Led c) →
      wpAny (model prog w) A (assign (.Name x px) env (.int (a₀ + (i : Int)) t)) (fun _ s₃ => wpAny (model prog w) A (execs body env) (TurnG h₀ env.locals { s with heap := h, toks := tk } Q [(I, oI)] Led ps stored m₀ (K (i + 1))) E s₃) E { s with heap := h, toks := tk })
    (done : ∀ c (u : Str → Option Value) h tk, K n c → Fr h₀ env.locals h (kstB (fun z => if stored.contains z then u z else m₀ z) (ps c)) → News h₀ env.locals h (Led c) → Q .next { s with heap := h, toks := tk }) :
    wpAny (model prog w) A (pyIter (.ref r)) (fun it s₂ => TurnsAt prog w A h₀ env (.Name x px) body Q E it s₂) E s := by
  refine wpAny_pyIter_range hr hsmall ?_
  have W := KTurns.ofWalks (target := .Name x px) (Walks.range (prog := prog) (w := w) hh s.heap.objs.size a₀ 1 n).bound (fun i v s Q E st q => wpAny_pure q)
  have hlt : ∀ c, ∀ p ∈ Led c, @LT.lt Nat _ p.1 s.heap.objs.size := fun c p hp => by
    have : p.1 ∈ (Led c₀).map (·.1) := hadr c ▸ List.mem_map_of_mem hp
    obtain ⟨q, hq, e⟩ := List.mem_map.mp this
    exact e ▸ Heap.lt_size (N q hq).1
  refine mt_core (tk0 := s.toks) W [s.heap.objs.size] Led ps stored K c₀ ?_ (fun b hb => hb) ?_ ?_ ?_ ?_ (F.push _) (fun p hp => ⟨Heap.get?_push_of_some _ (N p hp).1, (N p hp).2⟩) ?_ hk hK ?_ done
  · intro hm
    exact absurd F.ns.lt ((List.mem_singleton.mp hm) ▸ Nat.lt_irrefl _)
  · intro b hb
    exact ⟨hb, by rw [List.mem_singleton.mp hb]; exact next_is_new F⟩
  · rintro i h st
    exact ⟨[(s.heap.objs.size, _)], rfl, fun p hp => by rw [List.mem_singleton.mp hp]; exact st⟩
  · intro b hb
    exact .inl hb
  · show IsRangeIter _ _ _ _ _
    rw [hn]
    simpa using Heap.get?_push_size _ rfl
  · intro p hp hI
    exact absurd (Heap.lt_size (N p hp).1) ((List.mem_singleton.mp hI) ▸ Nat.lt_irrefl _)
  · rintro i v c u h tk own hi ⟨_, t, rfl⟩ hk' hown hne F₁ N₁
    obtain ⟨⟨I, oI⟩, rfl⟩ := mt_one hown
    have eI : I = s.heap.objs.size := by have := hown; simpa using this
    have e1 : a₀ + (i : Int) * 1 = a₀ + (i : Int) := by lia
    rw [e1]
    refine wpAny_mono (turn i c t u h tk I oI hi hk' (fun p hp => by rw [eI]; exact hlt c p hp) F₁ N₁) (fun _ s₂ h₂ => wpAny_mono h₂ (fun f s₃ p => p.toF fun c' p hp q hq => ?_) fun _ _ e => e) fun _ _ e => e
    rw [List.mem_singleton.mp hq]
    show @Ne Nat p.1 I
    rw [eI]
    exact Nat.ne_of_lt (hlt c' p hp)
/-- a range whose loop turns one made object alone (a cell) -/
theorem mt_rangeC {x : Str} {px : Pos} {r : Addr} {a₀ b₀ : Int} {t₀ u₀ v₀ : Tok} {n : Nat} {m₀ : Str → Option Value} {a : Addr} {o₀ : Obj} {rest : List (Addr × Obj)} (N : News h₀ env.locals s.heap ((a, o₀) :: rest)) (hc : ∃ v, o₀.data = .cell v)
    (hh : A.handled = none) (hr : IsRange s.heap r a₀ b₀ 1 t₀ u₀ v₀) (hsmall : Builtin.Range.small a₀ b₀ 1 = true) (hn : Builtin.Range.rangeSize a₀ b₀ 1 = (n : Int)) (F : Fr h₀ env.locals s.heap m₀)
    (turn : ∀ (i : Nat) o t h tk I oI, i < n → (∃ v, o.data = .cell v) → (∀ p ∈ (a, o) :: rest, @LT.lt Nat _ p.1 I) → Fr h₀ env.locals h m₀ → News h₀ env.locals h ((I, oI) :: (a, o) :: rest) →
      wpAny (model prog w) A (assign (.Name x px) env (.int (a₀ + (i : Int)) t)) (fun _ s₃ => wpAny (model prog w) A (execs body env) (TurnG h₀ env.locals { s with heap := h, toks := tk } Q [(I, oI)] (fun o => (a, o) :: rest) (fun _ => []) [] m₀ (fun o => ∃ v, o.data = .cell v)) E s₃) E { s with heap := h, toks := tk })
    (done : ∀ o h tk, (∃ v, o.data = .cell v) → Fr h₀ env.locals h m₀ → News h₀ env.locals h ((a, o) :: rest) → Q .next { s with heap := h, toks := tk }) :
    wpAny (model prog w) A (pyIter (.ref r)) (fun it s₂ => TurnsAt prog w A h₀ env (.Name x px) body Q E it s₂) E s :=
  mt_rangeF (fun o => (a, o) :: rest) (fun _ => []) [] (fun _ o => ∃ v, o.data = .cell v) o₀ hh hr hsmall hn F N (List.forall_mem_nil _) hc (fun _ => rfl)
    (fun i c t u h tk I oI hi hc hlt F₁ N₁ => turn i c t h tk I oI hi hc hlt F₁ N₁) (fun c u h tk hc F₁ N₁ => done c h tk hc F₁ N₁)
theorem mt_enum {σ : Type} {elts : List PySem.Expr} {k : Nat} {pos : Pos} {l : Addr} {lo : Obj} {vs : List Value} {nn : Nat} {m₀ : Str → Option Value} (Led : σ → List (Addr × Obj)) (ps : σ → List (Str × Value)) (stored : List Str) (K : Nat → σ → Prop) (c₀ : σ)
    (hh : A.handled = none) (F : Fr h₀ env.locals s.heap m₀) (N : News h₀ env.locals s.heap (Led c₀)) (hm : ∀ c, (l, lo) ∈ Led c) (hc : lo.cls = .type "list") (hd : lo.data = .seq vs.toArray nn) (hk : ∀ p ∈ ps c₀, m₀ p.1 = some p.2) (hK : K 0 c₀)
    (turn : ∀ (i : Nat) v T t c (u : Str → Option Value) h tk I oI J oJ, vs[i]? = some v → IsTup h T #[.int (i : Int) t, v] → K i c → (∀ p ∈ Led c, @Ne Nat p.1 I ∧ @Ne Nat p.1 J) → Fr h₀ env.locals h (kstB (fun z => if stored.contains z then u z else m₀ z) (ps c)) → News h₀ env.locals h ((I, oI) :: (J, oJ) :: Led c) →
      wpAny (model prog w) A (assign (.Tuple elts k pos) env (.ref T)) (fun _ s₃ => wpAny (model prog w) A (execs body env) (TurnF h₀ env.locals { s with heap := h, toks := tk } Q [(I, oI), (J, oJ)] Led ps stored m₀ (K (i + 1))) E s₃) E { s with heap := h, toks := tk })
    (done : ∀ c (u : Str → Option Value) h tk, K vs.length c → Fr h₀ env.locals h (kstB (fun z => if stored.contains z then u z else m₀ z) (ps c)) → News h₀ env.locals h (Led c) → Q .next { s with heap := h, toks := tk }) :
    wpAny (model prog w) A (call (.type "enumerate") [.ref l]) (fun xv s₁ => wpAny (model prog w) A (pyIter xv) (fun it s₂ => TurnsAt prog w A h₀ env (.Tuple elts k pos) body Q E it s₂) E s₁) E s := by
  have hax := N _ (hm c₀)
  have hl : s.heap.IsList l vs.toArray := ⟨lo, hax.1, hc, nn, hd⟩
  have hlt : @LT.lt Nat _ l s.heap.objs.size := Heap.lt_size hax.1
  have hLs : @LT.lt Nat _ env.locals s.heap.objs.size := F.ns.lt
  refine call_enumerate_list hl fun h' hE hI hsz hk9 => ?_
  refine wpAny_pyIter_enum hE ?_
  have W := KTurns.ofWalksU (elts := elts) (k := k) (pos := pos) (WalksT.enumerate (prog := prog) (w := w) hh (s.heap.objs.size + 1) s.heap.objs.size l (Nat.succ_ne_self _) (ktu_ne 1 hlt) (Nat.ne_of_lt hlt) vs.toArray).toU
  refine mt_core (tk0 := s.toks) W [s.heap.objs.size + 1, s.heap.objs.size] Led ps stored K c₀ ?_ ?_ ?_ ?_ ?_ ?_ (F.keeps hk9) (N.grown hk9) ?_ hk hK ?_ ?_
  · intro hI'
    have hb' : env.locals = s.heap.objs.size + 1 ∨ env.locals = s.heap.objs.size ∨ env.locals = l := by simpa using hI'
    rcases hb' with e | e | e
    · exact ktu_ne 1 hLs e
    · exact Nat.ne_of_lt hLs e
    · exact hax.2.1 e.symm
  · intro b hb
    simpa using hb
  · intro b hb
    have hb' : b = s.heap.objs.size + 1 ∨ b = s.heap.objs.size := by simpa using hb
    rcases hb' with rfl | rfl
    · exact ⟨by simp, mt_new F (Nat.le_add_right _ _)⟩
    · exact ⟨by simp, mt_new F (Nat.le_refl _)⟩
  · rintro i h ⟨⟨old, he⟩, ⟨oi, hoi, hic, _⟩, _⟩
    have he' : ∃ oe : Obj, h.get? (s.heap.objs.size + 1) = some oe := ⟨_, he⟩
    obtain ⟨oe, h1⟩ := he'
    refine ⟨[(s.heap.objs.size + 1, oe), (s.heap.objs.size, oi)], rfl, fun p hp => ?_⟩
    rcases List.mem_cons.mp hp with rfl | hp
    · exact h1
    · rw [List.mem_singleton.mp hp]; exact hoi
  · intro b hb
    have hb' : b = s.heap.objs.size + 1 ∨ b = s.heap.objs.size ∨ b = l := by simpa using hb
    rcases hb' with rfl | rfl | rfl
    · exact .inl (by simp)
    · exact .inl (by simp)
    · exact .inr (.inr ⟨lo, hm⟩)
  · exact ⟨⟨.none, hE⟩, hI, hl.at fun o e => hk9 l o e⟩
  · intro p hp hI'
    have hb' : p.1 = s.heap.objs.size + 1 ∨ p.1 = s.heap.objs.size := by simpa using hI'
    have hlp : @LT.lt Nat _ p.1 s.heap.objs.size := Heap.lt_size (N p hp).1
    rcases hb' with e | e
    · exact ktu_ne 1 hlp e
    · exact Nat.ne_of_lt hlp e
  · rintro i v c u h tk own hi ⟨T, vals, rfl, ⟨t, x, hx, rfl⟩, hT⟩ hk' hown hne F₁ N₁
    obtain ⟨⟨I, oI⟩, ⟨J, oJ⟩, rfl⟩ := mt_two hown
    exact turn i x T t c u h tk I oI J oJ (by simpa using hx) hT hk' (fun p hp => ⟨hne p hp (I, oI) (.head _), hne p hp (J, oJ) (.tail _ (.head _))⟩) F₁ N₁
  · intro c u h tk hk'
    exact done c u h tk (by simpa using hk')
end
theorem ne_same {prog : Program} {w : World} {A : Around} {E : Value → Shared → Prop} {s : Shared} {l b : Addr} {vs ws : List Value} {ns ms : List Int} {Q : Value → Shared → Prop} (hl : s.heap.IsList l vs.toArray) (hb : s.heap.IsList b ws.toArray) (hv : IntsAre vs ns) (hw : IntsAre ws ms) (e : ns = ms) (hu : A.units < cLine) (h : Q (.bool false) s) :
    wpAny (model prog w) A (compareOp .NotEq (.ref l) (.ref b)) Q E s := by
  subst e
  have l1 := hv.length
  have l2 := hw.length
  refine SeqAt.RcNeAt.lists (e := fun _ => true) hl hb (by simp [l1, l2]) hu (fun j h1 h2 => ?_) prog w E Q ?_
  · have h1' : j < ns.length := by simpa [l1] using h1
    obtain ⟨t1, q1⟩ := hv.get j ns[j] (by simp [h1'])
    obtain ⟨t2, q2⟩ := hw.get j ns[j] (by simp [h1'])
    have e1 : vs.toArray[j] = .int ns[j] t1 := by
      have := (List.getElem?_eq_some_iff.mp q1).2
      simpa using this
    have e2 : ws.toArray[j] = .int ns[j] t2 := by
      have := (List.getElem?_eq_some_iff.mp q2).2
      simpa using this
    rw [e1, e2]
    have := SeqAt.EqAt.int_int (A := A.in1) (s := s) ns[j] t1 ns[j] t2
    simpa using this
  · have e : (List.range vs.toArray.size).all (fun _ => true) = true := List.all_eq_true.mpr fun _ _ => rfl
    rw [e]; exact h
theorem ListComp_ES {prog : Program} {w : World} {A : Around} {E : Value → Shared → Prop} {s : Shared} {h₀ : Heap} {L : Addr} {m : Str → Option Value} {env : Env} {ct elt iter : PySem.Expr} {xn x₂ : Str} {px px₂ tp : Pos} {kk : Nat} {scope : Scope} {cl : List (Str × Addr)} {pos : Pos} {l : Addr} {items : Array Value} (D : Db) (tx : List Int) (leg : Bool) {x dx d : Addr} {o1 o2 : Obj} (q : Nat → Int) (u : Nat → Tok) (rest : List (Addr × Obj)) {Q : Value → Shared → Prop} (_F : Fr h₀ L s.heap m)
    (_N : News h₀ L s.heap ((x, o1) :: (dx, o2) :: rest))
    (hh : A.handled = none) (hclos : closureFor scope env = pure cl) (hcell : ∀ y ∈ scope.names, y.2 ≠ .cell) (hkind : scope.kind = .function)
    (hnames : ∀ y ∈ scope.names, y.2 = .local → scope.names.lookup y.1 = some .local) (hx : scope.names.lookup xn = some .local) (hx₂ : scope.names.lookup x₂ = some .local) (hxx : xn ≠ x₂)
    (h : wpAny (model prog w) A (eval iter env) (SrcE prog w A h₀ L m env ct elt xn x₂ scope cl l items (fun c : SS × Tok × Tok => strL x dx d q u #[] leg c.1 c.2.1 c.2.2 ++ rest) (fun i ys c => c.1 = stepS D (tx.take i) SS0 ∧ IntsAre ys (runS D leg (tx.take i) SS0 0)) (fun _ => m) (fun D => Q (.ref D))) E s)
    (hs : ∀ x, foldedSetIterable iter env x = pure x := by intro _; rfl) :
    wpAny (model prog w) A (eval (.ListComp elt [⟨.Tuple [.Name xn px, .Name x₂ px₂] kk tp, iter, [ct], 0⟩] scope pos) env) Q E s :=
  ListComp_E (σ := SS × Tok × Tok) _ _ _F hh hclos hcell hkind hnames hx hx₂ hxx h hs
theorem ints_items {vs : List Value} {ns : List Int} (h : IntsAre vs ns) : ∀ i v, i < vs.toArray.size → vs.toArray[i]? = some v → ∃ k t, ns[i]? = some k ∧ v = .int k t := fun i v _ hv => by
  obtain ⟨n, t, e, q⟩ := h.at i v (by simpa using hv)
  exact ⟨n, t, q, e⟩
theorem due_size {vs : List Value} {n : Nat} {p : Int → Bool} (h : IntsAre vs ((rangeKs 0 (n + 1)).filter p)) : vs.toArray.size ≤ n + 1 := by
  have := h.length
  have h2 := List.length_filter_le p (rangeKs 0 (n + 1))
  rw [rangeKs_length] at h2
  rw [List.size_toArray]; lia
theorem due_line {vs : List Value} {n : Nat} {p : Int → Bool} (h : IntsAre vs ((rangeKs 0 (n + 1)).filter p)) (hn : n < 1000) : vs.toArray.size ≤ sizeLine := by
  rw [PySem.sizeLine_eq]
  have := due_size h
  lia
theorem copy_size {vs : List Value} {ms : List Int} {row : List Sign} {n : Nat} {leg : Bool} (h : IntsAre vs ms) (e : ms = due row n leg) (hn : n < 1000) : vs.toArray.size ≤ sizeLine := by
  subst e
  have := due_size h
  rw [PySem.sizeLine_eq]; lia
theorem ints_head {vs : List Value} {k : Int} {r : List Int} (h : IntsAre vs (k :: r)) : ∃ t, vs[(0 : Int).toNat]? = some (.int k t) := h.get 0 k rfl
theorem ints_last {vs : List Value} {k : Int} {r : List Int} (h : IntsAre vs (r ++ [k])) : 0 < vs.length ∧ ∃ t, vs[vs.length - 1]? = some (.int k t) := by
  have e := h.length
  rw [List.length_append, List.length_singleton] at e
  refine ⟨by lia, ?_⟩
  exact h.get (vs.length - 1) k (by rw [e]; simp)
theorem my_last {prog : Program} {w : World} {A : Around} {E : Value → Shared → Prop} {s : Shared} {value slice : PySem.Expr} {l : Addr} {vs : List Value} {u : Tok} {v : Value} {Q : Value → Shared → Prop}
    (hl : s.heap.IsList l vs.toArray) (h0 : 0 < vs.length) (hx : vs[vs.length - 1]? = some v) (h : Q v s)
    (hs : subscripted slice false (.ref l) (.int (-1) u) = operate [.ref l, .int (-1) u] (getItem (.ref l) (.int (-1) u)) := by with_unfolding_all rfl) :
    wpAny (model prog w) A (subscriptTail value slice (.ref l) (.int (-1) u)) Q E s :=
  tail_any hl.typeIs slot_list_getitem.lookup (wpAny_getItem_list_neg hl (by decide) (by rw [List.size_toArray]; lia) (by decide) (by rw [List.size_toArray, show ((-1 : Int) + (vs.length : Int)).toNat = vs.length - 1 by lia]; simpa using hx) h) hs
theorem news8 {h₀ h : Heap} {L : Addr} {news : List (Addr × Obj)} {a1 a2 a3 a4 a5 a6 : Addr} {o1 o2 o3 o4 o5 o6 : Obj} (N : News h₀ L h news) (h1 : (a1, o1) ∈ news) (h2 : (a2, o2) ∈ news) (h3 : (a3, o3) ∈ news) (h4 : (a4, o4) ∈ news) (h5 : (a5, o5) ∈ news) (h6 : (a6, o6) ∈ news) :
    News h₀ L h [(a1, o1), (a2, o2), (a3, o3), (a4, o4), (a5, o5), (a6, o6)] := fun p hp => N p (by
  simp only [List.mem_cons, List.not_mem_nil, or_false] at hp
  rcases hp with rfl | rfl | rfl | rfl | rfl | rfl <;> assumption)
local macro_rules | `(tactic| walk_at "exec For") => `(tactic| k_extra "@exec For")
local macro_rules | `(tactic| walk_at "exec For Name Call cons nil") => `(tactic| k_extra "@exec For Name Call cons nil")
local macro_rules | `(tactic| walk_at "pyIter ref") => `(tactic| k_extra "@pyIter ref")
local macro_rules | `(tactic| walk_at "call type:list") => `(tactic| k_extra "@call type:list")
local macro_rules | `(tactic| k_ne) => `(tactic| (refine neN ?_; (try dsimp only); first | assumption | exact Ne.symm (by assumption) | exact Nat.ne_of_lt (by assumption) | exact Nat.ne_of_gt (by assumption) | lia))
theorem c_plr : ∀ (w : World) (d : Addr) (D : Db) (ta : Addr) (vs : List Value) (tx : List Int) (ra : Addr) (ws : List Value) (row : List Sign) (leg : Bool), (Txt vs tx) → (PlOk D tx row leg) → Ctr w 362 24 [.ref ta, .ref ra, .ref d, .bool leg] (fun h => TextAt w d D ta vs h ∧ RowAt ra ws row h) (fun v => v = .bool true) := by
  intro w d D ta vs tx ra ws row leg hT hok
  k_dflt (refine' Ctr.bodyCX (binds := [(Str.ofString "text", .ref ta), (Str.ofString "row", .ref ra), (Str.ofString "data", .ref d), (Str.ofString "is_legacy", .bool leg)]) ?ho ?hcd ?hbind ?hkind ?hnd ?h ?hd1 ?hco ?hgen ?hk; (case ho => k_is); (case hcd => k_is); (case hbind => first | exact fun _ _ => BindsTo.of_eq rfl | exact fun _ X' => binds_K X' rfl (by k_is) rfl rfl rfl); (case hkind => exact rfl); (case hnd => decide +kernel); (case hd1 => decide); (case hco => exact rfl); (case hgen => exact rfl); (case hk => exact rfl))
  intro kx
  revert hT hok
  revert w d D ta vs tx ra ws row leg kx
  refine seal8 (dW, default, ⟨fun _ => default, fun _ => default, fun _ => false⟩, default, default, default, default, default) ?_
  generalize sl8_0 _ _ = w, sl8_1 _ _ = d, sl8_2 _ _ = D, sl8_3 _ _ = ta, sl8_4 _ _ = vs, sl8_5 _ _ = tx, sl8_6 _ _ = ra, sl8_7 _ _ = ws
  refine seal3 (default, default, dCx) ?_
  generalize sl3_0 _ _ = row, sl3_1 _ _ = leg, sl3_2 _ _ = kx
  intro hT hok
  w_top off
  intro cells B F N Y X T hdp hun hP
  have _ : Dm := Dm.mk
  have _ : Rim := Rim.mk
  k_with_none
  k_with "@subscriptTail" => ((k_here; (with_reducible show wpAny _ _ (subscriptTail _ _ (Value.ref _) (Value.int _ _)) _ _ _); (with_unfolding_all refine' my_item ?k1_q9 ?k2_q9 ?k3_q9 ?k4_q9 ?_ ?k6_q9; (case k4_q9 => assumption); (case k1_q9 => is_list); (case k2_q9 => lia); (case k3_q9 => lia); (case k6_q9 => with_unfolding_all rfl); k_whole)))
  k_with "@call ref" => ((k_here; (with_reducible show wpAny _ _ (call (Value.ref 95) _) _ _ _); k_dflt (refine' Ctr.useV (c_break _ _ _ _ _ _ _ _ _ (by assumption) (by lia) (by lia)) ?k1_q9 ?k2_q9 ?k3_q9 ?k4_q9 ?k5_q9 ?k6_q9 ?k7_q9 ?k8_q9 ?k9_q9 ?_; (case k1_q9 => k_asm); (case k2_q9 => k_asm); (case k3_q9 => k_asm); (case k4_q9 => k_asm); (case k5_q9 => k_asm); (case k6_q9 => first | exact rfl | assumption); (case k7_q9 => exact TextAt.mono _ _ (Fr.keep (by k_asm)) (by assumption)); (case k8_q9 => ktr_room); (case k9_q9 => ktr_units)); intro h9 tk9 st9 F9 N9; (try k_sweep); (try k_fold)); (all_goals (try ((with_reducible show wpAny _ _ _ _ _ _); (try revert h9); (try revert tk9); (try revert st9); (try revert F9); (try revert N9); intros))))
  k_with "@eval ListComp" => ((k_here; k_dflt (first
      | refine LCt.ListComp_T (F₀ := by k_asm) (by with_unfolding_all rfl) (by decide) (by rfl) (by decide) (by rfl) ?_
      | refine LCg.ListComp_U (F₀ := by k_asm) (by with_unfolding_all rfl) (by decide) (by rfl) (by decide) (by rfl) ?_)))
  k_with "@exec Assign cons ListComp" => ((k_here; k_dflt (first
      | refine LCt.Assign_ListComp_T (F₀ := by k_asm) (by rfl) (by with_unfolding_all rfl) (by with_unfolding_all rfl) (by decide) (by rfl) (by decide) (by rfl) (by rfl) (by rfl) ?_
      | refine LCg.Assign_ListComp_U (F₀ := by k_asm) (by rfl) (by with_unfolding_all rfl) (by with_unfolding_all rfl) (by decide) (by rfl) (by decide) (by rfl) (by rfl) (by rfl) ?_)))
  k_with "@CompSrcT" => ((k_here; k_extra "src"))
  k_with "@eval ListComp" => ((k_here; k_extra "lcE"))
  k_with "@call type:enumerate" => ((k_here; k_extra "enum"))
  k_with "@call ref" => ((k_here; (with_reducible show wpAny _ _ (call (Value.ref 170) _) _ _ _); k_extra "stream"))
  k_with "@call ref" => ((k_here; (with_reducible show wpAny _ _ (call (Value.ref 153) _) _ _ _); k_extra "put"))
  k_with "@call ref" => ((k_here; (with_reducible show wpAny _ _ (call (Value.ref 352) _) _ _ _); k_dflt (refine' Ctr.useV (c_lbrk _ _ _ _ _ _ _ ?q1_q9 ?q2_q9) ?k1_q9 ?k2_q9 ?k3_q9 ?k4_q9 ?k5_q9 ?k6_q9 ?k7_q9 ?k8_q9 ?k9_q9 ?_; (case k1_q9 => k_asm); (case k2_q9 => k_asm); (case k3_q9 => k_asm); (case k4_q9 => k_asm); (case k5_q9 => k_asm); (case k6_q9 => first | exact rfl | assumption); (case k7_q9 => first | exact RowAt.mono _ _ (Fr.keep (by k_asm)) (by with_reducible assumption) | exact RowAt.drop (by with_reducible assumption) (by k_asm) (News.isList (by k_asm) (by k_mem))); (case q1_q9 => lia); (case q2_q9 => first | lia | (rw [List.length_drop]; lia)); (case k8_q9 => ktr_room); (case k9_q9 => ktr_units)); intro h9 tk9 st9 F9 N9; (try k_sweep); (try k_fold)); (all_goals (try ((with_reducible show wpAny _ _ _ _ _ _); (try revert h9); (try revert tk9); (try revert st9); (try revert F9); (try revert N9); intros))))
  k_with "@call ref" => ((k_here; (with_reducible show wpAny _ _ (call (Value.ref 109) _) _ _ _); k_dflt (refine' Ctr.useT (c_next _ _ _ _ _ _ _ _ _ (by assumption) (by lia) (by lia)) ?k1_q9 ?k2_q9 ?k3_q9 ?k4_q9 ?k5_q9 ?k6_q9 ?k7_q9 ?k8_q9 ?k9_q9 ?_; (case k1_q9 => k_asm); (case k2_q9 => k_asm); (case k3_q9 => k_asm); (case k4_q9 => k_asm); (case k5_q9 => k_asm); (case k6_q9 => first | exact rfl | assumption); (case k7_q9 => exact TextAt.mono _ _ (Fr.keep (by k_asm)) (by assumption)); (case k8_q9 => ktr_room); (case k9_q9 => ktr_units)); intro t9 h9 tk9 st9 F9 N9; (try k_sweep); (try k_fold)); (all_goals (try ((with_reducible show wpAny _ _ _ _ _ _); (try revert t9); (try revert h9); (try revert tk9); (try revert st9); (try revert F9); (try revert N9); intros))))
  k_with "@call ref" => ((k_here; (with_reducible show wpAny _ _ (call (Value.ref 117) _) _ _ _); k_dflt (refine' Ctr.useT (c_prev _ _ _ _ _ _ _ _ _ (by assumption) (by lia) (by lia)) ?k1_q9 ?k2_q9 ?k3_q9 ?k4_q9 ?k5_q9 ?k6_q9 ?k7_q9 ?k8_q9 ?k9_q9 ?_; (case k1_q9 => k_asm); (case k2_q9 => k_asm); (case k3_q9 => k_asm); (case k4_q9 => k_asm); (case k5_q9 => k_asm); (case k6_q9 => first | exact rfl | assumption); (case k7_q9 => exact TextAt.mono _ _ (Fr.keep (by k_asm)) (by assumption)); (case k8_q9 => ktr_room); (case k9_q9 => ktr_units)); intro t9 h9 tk9 st9 F9 N9; (try k_sweep); (try k_fold)); (all_goals (try ((with_reducible show wpAny _ _ _ _ _ _); (try revert t9); (try revert h9); (try revert tk9); (try revert st9); (try revert F9); (try revert N9); intros))))
  k_with "@call ref" => ((k_here; (with_reducible show wpAny _ _ (call (Value.ref 101) _) _ _ _); k_dflt (refine' CtrM.use (c_asked _ _ _ _ _ _ _ (by assumption)) ?k1_q9 ?k2_q9 ?k3_q9 ?k4_q9 ?kM_q9 ?k5_q9 ?k6_q9 ?k7_q9 ?k8_q9 ?k9_q9 ?_; (case k1_q9 => k_asm); (case k2_q9 => k_asm); (case k3_q9 => k_asm); (case k4_q9 => k_asm); (case kM_q9 => exact List.forall_mem_nil _); (case k5_q9 => k_asm); (case k6_q9 => first | exact rfl | assumption); (case k7_q9 => assumption); (case k8_q9 => ktr_room); (case k9_q9 => ktr_units); intro r9 h9 tk9 mu9 F9 N9 rest9 hr9; (obtain ⟨a9, v9, n9, e9, m9, i9⟩ := hr9; subst e9; subst m9; have N10 := news_join N9 (fun p hp => rest9 p hp (by simp)); simp only [List.cons_append, List.nil_append] at N10; clear N9 rest9); (try k_fold))); (all_goals (try ((with_reducible show wpAny _ _ _ _ _ _); (try revert r9); (try revert h9); (try revert tk9); (try revert mu9); (try revert F9); (try revert N9); (try revert rest9); (try revert hr9); (try revert a9); (try revert v9); (try revert n9); (try revert e9); (try revert m9); (try revert i9); (try revert N10); intros))))
  k_with "@call ref" => ((k_here; (with_reducible show wpAny _ _ (call (Value.ref 180) _) _ _ _); k_dflt (refine' CtrM.use (c_places _ _ _ _ _ _ _ (by assumption)) ?k1_q9 ?k2_q9 ?k3_q9 ?k4_q9 ?kM_q9 ?k5_q9 ?k6_q9 ?k7_q9 ?k8_q9 ?k9_q9 ?_; (case k1_q9 => k_asm); (case k2_q9 => k_asm); (case k3_q9 => k_asm); (case k4_q9 => k_asm); (case kM_q9 => exact List.forall_mem_nil _); (case k5_q9 => k_asm); (case k6_q9 => first | exact rfl | assumption); (case k7_q9 => assumption); (case k8_q9 => ktr_room); (case k9_q9 => ktr_units); intro r9 h9 tk9 mu9 F9 N9 rest9 hr9; (obtain ⟨a9, v9, n9, e9, m9, i9⟩ := hr9; subst e9; subst m9; have N10 := news_join N9 (fun p hp => rest9 p hp (by simp)); simp only [List.cons_append, List.nil_append] at N10; clear N9 rest9); (try k_fold))); (all_goals (try ((with_reducible show wpAny _ _ _ _ _ _); (try revert r9); (try revert h9); (try revert tk9); (try revert mu9); (try revert F9); (try revert N9); (try revert rest9); (try revert hr9); (try revert a9); (try revert v9); (try revert n9); (try revert e9); (try revert m9); (try revert i9); (try revert N10); intros))))
  k_with "@compareOp NotEq ref ref" => ((k_here; k_extra "ne"))
  k_with "@exec For Name Call cons nil" => ((k_here; k_extra "for"))
  k_with "@pyIter ref" => ((k_here; k_extra "turns"))
  k_with "@call type:list" => ((k_here; (with_reducible show wpAny _ _ (call (Value.type _) [Value.ref _]) _ _ _); k_extra "list"))
  k_with "@subscriptTail" => ((k_here; (with_reducible show wpAny _ _ (subscriptTail _ _ (Value.ref _) (Value.int (-1) _)) _ _ _); k_dflt (refine' my_last ?k1_q9 ?k2_q9 ?k3_q9 ?_; (case k3_q9 => assumption); (case k1_q9 => is_list); (case k2_q9 => assumption))))
  k_with "k0" => (k_here; (with_reducible show wpAny _ _ (callWith _ (Value.ref _) _ (backTo _ (starEach [] _)) []) _ _ _); k_dflt (refine' callWith_K0 ?k1_q9 ?k2_q9 ?_; (case k1_q9 => first | with_reducible assumption | exact Frag.In.keeps (by with_reducible assumption) (Fr.keep (by with_reducible assumption))); (case k2_q9 => k_is); k_whole))
  k_with "fold" => (k_fold; (with_reducible rename Dm => d9); revert d9; revert ek; revert qk; intro qk ek _)
  k_with "seal0" =>
    (with_reducible show wpAny _ _ (execs (_ :: _) _) _ _ _)
    (try k_extra "preseal")
    (fail_if_success (have y9 := ‹_›; (with_reducible have y8 : Rim := y9)))
    (repeat ((fail_if_success (have y9 := ‹_›; (with_reducible have y8 : Rim := y9))); first | ((fail_if_success (have y9 := ‹_›; have y8 : (_ : Prop) := y9)); clear (‹_›)) | revert (‹_›)))
    (repeat (first
      | ((with_reducible refine seal2 dHT ?_); (generalize sl2_0 _ _ = z8, sl2_1 _ _ = z7))
      | ((with_reducible refine seal1 dHp ?_); (generalize eps _ _ = z8))
      | ((with_reducible refine seal1 (0 : Nat) ?_); (generalize eps _ _ = z8))
      | ((with_reducible refine seal1 default ?_); (generalize eps _ _ = z8))
      | (with_reducible intro _)))
    ((with_reducible rename Rim => m9); revert m9; intro _)

  k_cells Y
  k_extra "seal0"
  (with_reducible rename News _ _ _ _ => N)
  (with_reducible rename Fr _ _ _ _ => F)
  obtain ⟨hPT, hPR⟩ := hP
  obtain ⟨hi, hc, hl⟩ := id hT
  have hD := hPT.1
  have hL := hPT.2
  have hlen := hi.length
  have hrl := hok.h0
  rename_i oS oA oZ oL oD oR oT dS dA dZ dL dD dR dT _
  k_with "split" => ((with_reducible show wpAny _ _ (execs (_ :: _) _) _ _ _); ((with_reducible rename _ ∧ _ => a9); obtain ⟨_, _⟩ := a9); (repeat ((with_reducible rename _ ∧ _ => a9); obtain ⟨_, _⟩ := a9)))
  k_with "stream" =>
    k_dflt (refine' Cls.use (fun x9 dx9 hne9 => c_init _ _ _ x9 dx9 hne9) ?km ?ki ?kf ?k1 ?k2 ?k3 ?k4 ?k5 ?k6 ?k7 ?k8 ?k9 ?_; (case km => k_is); (case ki => k_is); (case kf => k_is); (case k1 => k_asm); (case k2 => k_asm); (case k3 => k_asm); (case k4 => k_asm); (case k5 => k_asm); (case k6 => first | exact rfl | assumption); (case k7 => trivial); (case k8 => ktr_room); (case k9 => ktr_units))
    intro x dx h9 tk9 mu9 F9 N9 rest9 off9 hxd9 hne9 hr9
    obtain ⟨q, u, tq, tc, he9⟩ := hr9
    subst he9
    have N10 := news_join N9 rest9
    simp only [List.forall_mem_cons, List.not_mem_nil, false_implies, implies_true, and_true] at off9
    simp only [strL, optS, List.cons_append, List.nil_append] at N10
    clear N9 rest9
    clear tq
  k_with "lcE" =>
    (with_reducible show wpAny _ _ (eval (Expr.ListComp _ [{ target := Expr.Tuple _ _ _, iter := _, ifs := _, is_async := _ }] _ _) _) _ _ _)
    (with_reducible rename Obj => oc)
    (with_reducible rename Fr _ _ _ _ => FB)
    (with_reducible rename News _ _ _ _ => NB)
    k_dflt (refine ListComp_ES (d := d) (l := ta) (items := vs.toArray) D tx leg q u _ FB NB (by rfl) (by with_unfolding_all rfl) (by decide) (by rfl) (by decide) (by rfl) (by rfl) (by decide) ?_)
    all_goals (try ((with_reducible rename Rim => m9); revert m9; intro _))
  k_with "enum" =>
    refine call_enumerate_list (by is_list) ?_
    intro hE heE hitE hszE hkE
    k_dflt (refine SrcE.intro (SS0, (0 : Nat), tc) FB (by with_unfolding_all exact NB) hL (by rw [PySem.sizeLine_eq, List.size_toArray]; lia) heE hitE hkE (fun _ => rfl) (by dsimp only; rw [List.take_zero]; exact ⟨rfl, .nil⟩) (fun e it i v t₁ ys c oe oit C oC D₀ m₂ h tk hv hJ hNs hx1 hx2 F N off ie eD DC => ?_) (fun c ys D₀ h tk hJ F N off => ?_))
    rotate_left
    obtain ⟨-, hJ2⟩ := hJ
    simp only [List.size_toArray, hlen, List.take_length] at hJ2
    simp only [strL, List.cons_append, List.nil_append] at N
    rotate_right
    obtain ⟨n, t, hev, hn⟩ := IntsAre.at hi i v (by simpa using hv)
    subst hev
    obtain ⟨hJ1, hJ2⟩ := hJ
    simp only [strL, List.cons_append, List.nil_append] at N
    simp only [strL, List.cons_append, List.nil_append, List.forall_mem_cons, List.not_mem_nil, false_implies, implies_true, and_true] at off
    obtain ⟨hn0, hn1⟩ := hc.of_get hn
  k_with "put" =>
    k_dflt (refine' CtrM.use (c_put w x dx d D q u #[] leg c.1 c.2.1 c.2.2 n t hn0 hn1 hne9) ?k1 ?k2 ?k3 ?k4 ?kM ?k5 ?k6 ?k7 ?k8 ?k9 ?_; (case k1 => k_asm); (case k2 => k_asm); (case k3 => k_asm); (case k4 => k_asm); (case kM => exact (List.forall_mem_cons.mpr ⟨by k_mem, List.forall_mem_cons.mpr ⟨by k_mem, List.forall_mem_nil _⟩⟩)); (case k5 => k_asm); (case k6 => first | exact rfl | assumption); (case k7 => exact hD); (case k8 => ktr_room); (case k9 => ktr_units))
    intro r9 hP9 tkP9 mu9 FP9 NP9 rest9 hr9
    obtain ⟨hr9, tk1, tc1, he9⟩ := hr9
    subst hr9
    subst he9
    have N11 := put_join (hd := [(e, oe), (it, oit), (C, oC), (D₀, LCg.lst ys)]) (mu := strL x dx d q u #[] leg c.1 c.2.1 c.2.2) (tl := _) NP9 (by with_unfolding_all exact rest9)
      (by repeat (refine List.forall_mem_cons.mpr ⟨notin2 (by lia) (by lia), ?_⟩; skip)
          exact List.forall_mem_nil _)
      (by repeat (refine List.forall_mem_cons.mpr ⟨notin2 (by lia) (by lia), ?_⟩; skip)
          exact List.forall_mem_nil _)
    simp only [strL, List.cons_append, List.nil_append] at N11
    clear rest9 NP9
  k_with "ne" =>
    k_dflt (refine' ne_same ?l ?b ?hv ?hw ?e ?hu ?_; (case l => is_list); (case b => is_list); (case hv => assumption); (case hw => assumption); (case e => first | exact hok.h1 | exact hok.h2 | exact hok.h3); (case hu => ktr_units))
  k_with "list" =>
    k_dflt (refine' list_copyK ?k1 ?k2 ?k3 ?_ ?z; (case k1 => k_asm); (case k2 => k_asm); (case k3 => is_list); (case z => exact copy_size (by assumption) (by first | exact hok.h3 | exact hok.h1) hl))
    intro D' c' h' F' N' l1
    clear l1
  k_with "for" =>
    k_dflt (refine' For_turns (by k_asm) ?_)
  k_with "turns" =>
    have NP := news8 (a1 := kx.L' + 1 + 1 + 1 + 1 + 1 + 1) (o2 := LCg.lst yd) (a3 := kx.L' + 1 + 1 + 1 + 1 + 1) (a4 := kx.L' + 1 + 1 + 1 + 1) (a5 := kx.L' + 1 + 1 + 1) (a6 := kx.L' + 1) (by k_asm) (by k_mem) (by k_mem) (by k_mem) (by k_mem) (by k_mem) (by k_mem)
    k_dflt (refine mt_rangeC (n := tx.length) NP ⟨_, by assumption⟩ (by rfl) (by assumption) (small_one (by lia) (by lia) (by lia) (by lia)) ((rangeSize_nat _ _).trans (by lia)) (by k_asm) ?_ ?_)
    intro i9 o9 t9 h9 tk9 I9 oI9 hi9 hc9 hlt9 F9 N9
    obtain ⟨vc9, hc9⟩ := hc9
    simp only [List.forall_mem_cons, List.not_mem_nil, false_implies, implies_true, and_true] at hlt9
    clear NP
    rotate_left
    intro o9 h9 tk9 hc9 F9 N9
    clear NP
    rotate_right
  k_with "src" =>
    first
      | ((with_reducible show LCt.CompSrcT _ _ _ _ _ _ _ (Expr.Compare (Expr.Name (Str.ofString "at") _) _ _ _) _ _ _ _ _ _ _)
         k_dflt (refine LCt.CompSrcT.ledger (its := yd.toArray) (by rfl) (by k_asm) (by k_asm) (by k_mem) (due_line hyd (by with_reducible assumption)) ?_)
         intro g'
         refine restT (ks := due row tx.length leg) (fun i => decide (i < (tx.length : Int))) (hyd.length.symm.trans (List.size_toArray (as := yd)).symm) (ints_items hyd) (by first | exact .inr ⟨_, by k_mem, rfl, _, rfl⟩ | lcg_src) (fun k t I oI C oC D₀ m₂ ys h tk E' hk hC hx F N off ne => ?_) (fun k t I oI C oC D₀ m₂ ys h tk E' hk hC hx F N off ne => ?_) (fun ye hye => ?_))
      | ((with_reducible show LCt.CompSrcT _ _ _ _ _ _ _ (Expr.Compare (Expr.Name (Str.ofString "place") _) [CmpOp.Gt] _ _) _ _ _ _ _ _ _)
         k_dflt (refine LCt.CompSrcT.ledger (its := yd.toArray) (by rfl) (by k_asm) (by k_asm) (by k_mem) (due_line hyd (by with_reducible assumption)) ?_)
         intro g'
         refine restT (ks := due row tx.length leg) (fun p => decide (p > 0 + (i9 : Int))) (hyd.length.symm.trans (List.size_toArray (as := yd)).symm) (ints_items hyd) (by first | exact .inr ⟨_, by k_mem, rfl, _, rfl⟩ | lcg_src) (fun k t I oI C oC D₀ m₂ ys h tk E' hk hC hx F N off ne => ?_) (fun k t I oI C oC D₀ m₂ ys h tk E' hk hC hx F N off ne => ?_) (fun yg hyg => ?_)
         rotate_left 2
         obtain ⟨rg, hrg⟩ := hok.h5 (0 + (i9 : Int)) (by lia) (by lia)
         rw [hrg] at hyg
         obtain ⟨tg, htg⟩ := ints_head hyg
         rotate_right 2)
      | ((with_reducible show LCt.CompSrcT _ _ _ _ _ _ _ (Expr.Compare (Expr.Name (Str.ofString "place") _) [CmpOp.Lt] _ _) _ _ _ _ _ _ _)
         k_dflt (refine LCt.CompSrcT.ledger (its := yd.toArray) (by rfl) (by k_asm) (by k_asm) (by k_mem) (due_line hyd (by with_reducible assumption)) ?_)
         intro g'
         refine restT (ks := due row tx.length leg) (fun p => decide (p < 0 + (i9 : Int) + 1)) (hyd.length.symm.trans (List.size_toArray (as := yd)).symm) (ints_items hyd) (by first | exact .inr ⟨_, by k_mem, rfl, _, rfl⟩ | lcg_src) (fun k t I oI C oC D₀ m₂ ys h tk E' hk hC hx F N off ne => ?_) (fun k t I oI C oC D₀ m₂ ys h tk E' hk hC hx F N off ne => ?_) (fun yl hyl => ?_)
         rotate_left 2
         obtain ⟨rl, hrl⟩ := hok.h6 (0 + (i9 : Int)) (by lia) (by lia)
         rw [hrl] at hyl
         obtain ⟨hl0, tl, htl⟩ := ints_last hyl
         rotate_right 2)
      | ((with_reducible show LCt.CompSrcT _ _ _ _ _ _ _ (Expr.Call (Expr.Name (Str.ofString "_law_breaks") _) _ _ _) _ _ _ _ _ _ _)
         k_dflt (refine LCt.CompSrcT.range (n := tx.length + 1) (by rfl) (by k_asm) (by k_asm) (by assumption) (small_one (by lia) (by lia) (by lia) (by lia)) ((rangeSize_nat _ _).trans (by lia)) (by rw [PySem.sizeLine_eq]; lia) ?_)
         intro g'
         refine restT (ks := rangeKs 0 (tx.length + 1)) (fun i => lawBrk row i leg) (rangeKs_length _ _) (range_items 0 _) trivial (fun k t I oI C oC D₀ m₂ ys h tk E' hk hC hx F N off ne => ?_) (fun k t I oI C oC D₀ m₂ ys h tk E' hk hC hx F N off ne => ?_) (fun yd hyd => ?_)
         obtain ⟨hk0, hk1⟩ := mem_rangeKs hk)
      | ((with_reducible show LCt.CompSrcT _ _ _ _ _ _ _ (Expr.Call (Expr.Name (Str.ofString "cluster_break") _) _ _ _) _ _ _ _ _ _ _)
         k_dflt (refine LCt.CompSrcT.range (n := tx.length + 1) (by rfl) (by k_asm) (by k_asm) (by assumption) (small_one (by lia) (by lia) (by lia) (by lia)) ((rangeSize_nat _ _).trans (by lia)) (by rw [PySem.sizeLine_eq]; lia) ?_)
         intro g'
         refine restT (ks := rangeKs 0 (tx.length + 1)) (fun i => brk D tx i leg) (rangeKs_length _ _) (range_items 0 _) trivial (fun k t I oI C oC D₀ m₂ ys h tk E' hk hC hx F N off ne => ?_) (fun k t I oI C oC D₀ m₂ ys h tk E' hk hC hx F N off ne => ?_) (fun yb hyb => ?_)
         obtain ⟨hk0, hk1⟩ := mem_rangeKs hk)
  ((try ((with_reducible rename Rim => m9); revert m9; intro _)); k_steps)
  all_goals (try dsimp only)
  all_goals first
    | exact TestEnd.mk (by assumption) (by assumption) rfl
    | exact ElemEnd.mk (by assumption) (by assumption) ⟨_, rfl⟩
    | exact TurnE.mk (c.1.step D n, tk1, tc1) (by assumption) (by assumption) (by with_unfolding_all exact fun p hp => hp) (turn_y hn hJ1 hJ2 (by assumption))
    | exact TurnE.mk (c.1.step D n, tk1, tc1) (by assumption) (by assumption) (by with_unfolding_all exact fun p hp => hp) (turn_n hn hJ1 hJ2 (by assumption))
    | exact Done.mk (by assumption) rfl
    | exact absurd rfl (by assumption)
    | exact TurnG.mk _ (by assumption) (by assumption) (by kst_in) (by kst_in) (List.forall_mem_nil _) (fun _ _ _ => rfl) ⟨_, by assumption⟩
theorem c_like_s : ∀ (w : World) (x : Str) (y : Str) (t1 : Tok) (t2 : Tok), Ctr w 192 2 [.str x t1, .str y t2] (fun _ => True) (fun v => v = .bool (x == y)) := by
  intro w x y t1 t2
  k_dflt (refine' Ctr.bodyCX (binds := [(Str.ofString "one", .str x t1), (Str.ofString "other", .str y t2)]) ?ho ?hcd ?hbind ?hkind ?hnd ?h ?hd1 ?hco ?hgen ?hk; (case ho => k_is); (case hcd => k_is); (case hbind => first | exact fun _ _ => BindsTo.of_eq rfl | exact fun _ X' => binds_K X' rfl (by k_is) rfl rfl rfl); (case hkind => exact rfl); (case hnd => decide +kernel); (case hd1 => decide); (case hco => exact rfl); (case hgen => exact rfl); (case hk => exact rfl))
  intro kx
  revert w x y t1 t2 kx
  refine seal5 (dW, default, default, default, default) ?_
  generalize sl5_0 _ _ = w, sl5_1 _ _ = x, sl5_2 _ _ = y, sl5_3 _ _ = t1, sl5_4 _ _ = t2
  refine seal1 (dCx) ?_
  generalize eps _ _ = kx
  w_top off
  intro cells B F N Y X T hdp hun hP
  have _ : Dm := Dm.mk
  have _ : Rim := Rim.mk
  k_with_none
  k_with "k0" => (k_here; (with_reducible show wpAny _ _ (callWith _ (Value.ref _) _ (backTo _ (starEach [] _)) []) _ _ _); k_dflt (refine' callWith_K0 ?k1_q9 ?k2_q9 ?_; (case k1_q9 => first | with_reducible assumption | exact Frag.In.keeps (by with_reducible assumption) (Fr.keep (by with_reducible assumption))); (case k2_q9 => k_is); k_whole))
  k_with "fold" => (k_fold; (with_reducible rename Dm => d9); revert d9; revert ek; revert qk; intro qk ek _)
  k_with "seal0" => k_extra "seal"
  k_with "seal" =>
    (with_reducible show wpAny _ _ (execs (_ :: _) _) _ _ _)
    (try k_extra "preseal")
    (fail_if_success (have y9 := ‹_›; (with_reducible have y8 : Rim := y9)))
    (repeat ((fail_if_success (have y9 := ‹_›; (with_reducible have y8 : Rim := y9))); first | ((fail_if_success (have y9 := ‹_›; have y8 : (_ : Prop) := y9)); clear (‹_›)) | revert (‹_›)))
    (repeat (first
      | ((with_reducible refine seal2 dHT ?_); (generalize sl2_0 _ _ = z8, sl2_1 _ _ = z7))
      | ((with_reducible refine seal1 dHp ?_); (generalize eps _ _ = z8))
      | ((with_reducible refine seal1 (0 : Nat) ?_); (generalize eps _ _ = z8))
      | ((with_reducible refine seal1 default ?_); (generalize eps _ _ = z8))
      | (with_reducible intro _)))
    ((with_reducible rename Rim => m9); revert m9; intro _)

  k_cells Y
  k_extra "seal0"
  (with_reducible rename News _ _ _ _ => N)
  (with_reducible rename Fr _ _ _ _ => F)
  ((try ((with_reducible rename Rim => m9); revert m9; intro _)); k_steps)
  all_goals (try dsimp only)
  all_goals (refine Done.mk (by assumption) (congrArg Value.bool ?_))
  all_goals first | rfl | ((have h9 : (x == y) = true := by assumption); rw [h9]; rfl)
theorem c_like_b : ∀ (w : World) (x : Bool) (y : Bool), Ctr w 192 2 [.bool x, .bool y] (fun _ => True) (fun v => v = .bool (x == y)) := by
  intro w x y
  k_dflt (refine' Ctr.bodyCX (binds := [(Str.ofString "one", .bool x), (Str.ofString "other", .bool y)]) ?ho ?hcd ?hbind ?hkind ?hnd ?h ?hd1 ?hco ?hgen ?hk; (case ho => k_is); (case hcd => k_is); (case hbind => first | exact fun _ _ => BindsTo.of_eq rfl | exact fun _ X' => binds_K X' rfl (by k_is) rfl rfl rfl); (case hkind => exact rfl); (case hnd => decide +kernel); (case hd1 => decide); (case hco => exact rfl); (case hgen => exact rfl); (case hk => exact rfl))
  intro kx
  revert w x y kx
  refine seal3 (dW, default, default) ?_
  generalize sl3_0 _ _ = w, sl3_1 _ _ = x, sl3_2 _ _ = y
  refine seal1 (dCx) ?_
  generalize eps _ _ = kx
  intro cells B F N Y X T hdp hun hP
  have _ : Dm := Dm.mk
  have _ : Rim := Rim.mk
  k_with_none
  k_with "k0" => (k_here; (with_reducible show wpAny _ _ (callWith _ (Value.ref _) _ (backTo _ (starEach [] _)) []) _ _ _); k_dflt (refine' callWith_K0 ?k1_q9 ?k2_q9 ?_; (case k1_q9 => first | with_reducible assumption | exact Frag.In.keeps (by with_reducible assumption) (Fr.keep (by with_reducible assumption))); (case k2_q9 => k_is); k_whole))
  k_with "fold" => (k_fold; (with_reducible rename Dm => d9); revert d9; revert ek; revert qk; intro qk ek _)
  k_with "seal0" => k_extra "seal"
  k_with "seal" =>
    (with_reducible show wpAny _ _ (execs (_ :: _) _) _ _ _)
    (try k_extra "preseal")
    (fail_if_success (have y9 := ‹_›; (with_reducible have y8 : Rim := y9)))
    (repeat ((fail_if_success (have y9 := ‹_›; (with_reducible have y8 : Rim := y9))); first | ((fail_if_success (have y9 := ‹_›; have y8 : (_ : Prop) := y9)); clear (‹_›)) | revert (‹_›)))
    (repeat (first
      | ((with_reducible refine seal2 dHT ?_); (generalize sl2_0 _ _ = z8, sl2_1 _ _ = z7))
      | ((with_reducible refine seal1 dHp ?_); (generalize eps _ _ = z8))
      | ((with_reducible refine seal1 (0 : Nat) ?_); (generalize eps _ _ = z8))
      | ((with_reducible refine seal1 default ?_); (generalize eps _ _ = z8))
      | (with_reducible intro _)))
    ((with_reducible rename Rim => m9); revert m9; intro _)

  k_cells Y
  k_extra "seal0"
  (with_reducible rename News _ _ _ _ => N)
  (with_reducible rename Fr _ _ _ _ => F)
  ((try ((with_reducible rename Rim => m9); revert m9; intro _)); k_steps)
  all_goals (try dsimp only)
  all_goals (refine Done.mk (by assumption) (congrArg Value.bool ?_))
  all_goals first | rfl | ((have h9 : (x == y) = true := by assumption); rw [h9]; rfl)
def Same (a b : Dv) : Prop := (∃ x y, a = .s x ∧ b = .s y) ∨ (∃ x y, a = .b x ∧ b = .b y)
theorem c_like (w : World) (v1 v2 : Value) (d1 d2 : Dv) (h1 : IsDv v1 d1) (h2 : IsDv v2 d2) (hk : Same d1 d2) : Ctr w 192 2 [v1, v2] (fun _ => True) (fun v => v = .bool (decide (d1 = d2))) := by
  rcases hk with ⟨x, y, rfl, rfl⟩ | ⟨x, y, rfl, rfl⟩
  · obtain ⟨t1, rfl⟩ := isDv_s h1
    obtain ⟨t2, rfl⟩ := isDv_s h2
    have e : decide (Dv.s x = Dv.s y) = (x == y) := by rw [Bool.eq_iff_iff]; simp
    rw [e]; exact c_like_s w x y t1 t2
  · have e1 := isDv_b h1
    have e2 := isDv_b h2
    subst e1
    subst e2
    have e : decide (Dv.b x = Dv.b y) = (x == y) := by rw [Bool.eq_iff_iff]; simp
    rw [e]; exact c_like_b w x y
/-- a range map's objects -/
def rmL (x dx sa va : Addr) (q : Nat → Int) (u : Nat → Tok) (n1 n2 : Nat) (dft : Value) (vs ws : List Value) : List (Addr × Obj) :=
  [(x, ⟨.ref 237, some dx, .plain, #[]⟩), (dx, dictOf [⟨q 0, .str (Str.ofString "default") (u 0), dft⟩, ⟨q 1, .str (Str.ofString "starts") (u 1), .ref sa⟩, ⟨q 2, .str (Str.ofString "values") (u 2), .ref va⟩] 3), (sa, W.listOf vs.toArray n1), (va, W.listOf ws.toArray n2)]
theorem rinit_ex {x dx sa va : Addr} {h0 h1 h2 : Int} {t0 t1 t2 t : Tok} {n1 n2 : Nat} {dft : Value} (nd : ([x, dx, sa, va] : List Nat).Nodup) : (Value.none = Value.none) ∧ ∃ sa' va' q u n1' n2' t', [(x, instObj 237 dx), (dx, dictOf [⟨h0, .str (Str.ofString "default") t0, dft⟩, ⟨h1, .str (Str.ofString "starts") t1, .ref sa⟩, ⟨h2, .str (Str.ofString "values") t2, .ref va⟩] 3), (sa, W.listOf #[.int 0 t] n1), (va, W.listOf #[dft] n2)] = rmL x dx sa' va' q u n1' n2' dft [.int 0 t'] [dft] ∧ ((rmL x dx sa' va' q u n1' n2' dft [.int 0 t'] [dft]).map (·.1)).Nodup :=
  ⟨rfl, sa, va, fun i => [h0, h1, h2].getD i 0, fun i => [t0, t1, t2].getD i 0, n1, n2, t, rfl, nd⟩
theorem c_rinit : ∀ (w : World) (dft : Value) (x : Addr) (dx : Addr), (@Ne Nat x dx) → CtrM w 206 1 [.ref x, dft] [(x, instObj 237 dx), (dx, dictOf [] 0)] (fun _ => True) (fun v mu => v = .none ∧ ∃ sa va q u n1 n2 t, mu = rmL x dx sa va q u n1 n2 dft [.int 0 t] [dft] ∧ ((rmL x dx sa va q u n1 n2 dft [.int 0 t] [dft]).map (·.1)).Nodup) := by
  intro w dft x dx hne
  k_dflt (refine' CtrM.bodyX Mono.top (binds := [(Str.ofString "self", .ref x), (Str.ofString "default", dft)]) ?ho ?hcd ?hbind ?hloc ?h ?hcell ?hd1 ?hco ?hgen ?hk; (case ho => k_is); (case hcd => k_is); (case hbind => first | exact fun _ _ => BindsTo.of_eq rfl | exact fun _ X' => binds_K X' rfl (by k_is) rfl rfl rfl); (case hloc => exact locs rfl); (case hcell => decide); (case hd1 => decide); (case hco => exact rfl); (case hgen => exact rfl); (case hk => exact rfl))
  intro kx
  revert hne
  revert w dft x dx kx
  refine seal5 (dW, default, default, default, dCx) ?_
  generalize sl5_0 _ _ = w, sl5_1 _ _ = dft, sl5_2 _ _ = x, sl5_3 _ _ = dx, sl5_4 _ _ = kx
  intro hne
  intro B F N X T hdp hun hP
  have _ : Dm := Dm.mk
  have _ : Rim := Rim.mk
  k_with_none
  k_with "k0" => (k_here; (with_reducible show wpAny _ _ (callWith _ (Value.ref _) _ (backTo _ (starEach [] _)) []) _ _ _); k_dflt (refine' callWith_K0 ?k1_q9 ?k2_q9 ?_; (case k1_q9 => first | with_reducible assumption | exact Frag.In.keeps (by with_reducible assumption) (Fr.keep (by with_reducible assumption))); (case k2_q9 => k_is); k_whole))
  k_with "fold" => (k_fold; (with_reducible rename Dm => d9); revert d9; revert ek; revert qk; intro qk ek _)
  k_with "seal0" => k_extra "seal"
  k_with "seal" =>
    (with_reducible show wpAny _ _ (execs (_ :: _) _) _ _ _)
    (try k_extra "preseal")
    (fail_if_success (have y9 := ‹_›; (with_reducible have y8 : Rim := y9)))
    (repeat ((fail_if_success (have y9 := ‹_›; (with_reducible have y8 : Rim := y9))); first | ((fail_if_success (have y9 := ‹_›; have y8 : (_ : Prop) := y9)); clear (‹_›)) | revert (‹_›)))
    (repeat (first
      | ((with_reducible refine seal2 dHT ?_); (generalize sl2_0 _ _ = z8, sl2_1 _ _ = z7))
      | ((with_reducible refine seal1 dHp ?_); (generalize eps _ _ = z8))
      | ((with_reducible refine seal1 (0 : Nat) ?_); (generalize eps _ _ = z8))
      | ((with_reducible refine seal1 default ?_); (generalize eps _ _ = z8))
      | (with_reducible intro _)))
    ((with_reducible rename Rim => m9); revert m9; intro _)

  ((try ((with_reducible rename Rim => m9); revert m9; intro _)); k_steps)
  all_goals (try dsimp only)
  refine' DoneM.mk (mu' := [(x, _), (dx, _), (_, W.listOf #[Value.int 0 _] _), (_, W.listOf #[dft] _)]) (by assumption) (by assumption) ?hs (rinit_ex ?nd)
  case hs => exact (List.forall_mem_cons.mpr ⟨by k_mem, List.forall_mem_cons.mpr ⟨by k_mem, List.forall_mem_cons.mpr ⟨by k_mem, List.forall_mem_cons.mpr ⟨by k_mem, List.forall_mem_nil _⟩⟩⟩⟩)
  case nd =>
    simp only [List.nodup_cons, List.mem_cons, List.not_mem_nil, or_false, not_or, List.nodup_nil, and_true, not_false_eq_true]
    lia
theorem dv_mem {dv : List Dv} {i : Nat} (h : i < dv.length) : dv.getD i (.b false) ∈ dv := by
  rw [List.getD_eq_getElem?_getD, List.getElem?_eq_getElem h]; exact List.getElem_mem h
theorem cnt_mono {a b : Int} (h : a ≤ b) : ∀ st : List Int, cnt st a ≤ cnt st b
  | [] => Nat.le_refl _
  | x :: r => by
    have ih := cnt_mono h r
    unfold cnt at ih ⊢
    rw [List.filter_cons, List.filter_cons]
    by_cases h1 : x ≤ a
    · rw [if_pos (by simpa using h1), if_pos (by simp; lia)]; simpa using ih
    · rw [if_neg (by simpa using h1)]
      split
      · exact Nat.le_succ_of_le ih
      · exact ih
theorem cnt_append (a b : List Int) (x : Int) : cnt (a ++ b) x = cnt a x + cnt b x := by unfold cnt; rw [List.filter_append, List.length_append]
theorem cnt_all {x : Int} : ∀ {st : List Int}, (∀ s ∈ st, s ≤ x) → cnt st x = st.length
  | [], _ => rfl
  | a :: r, h => by
    have ih := cnt_all (st := r) fun s hs => h s (.tail _ hs)
    unfold cnt at ih ⊢
    rw [List.filter_cons, if_pos (by simpa using h a (.head _))]
    simpa using ih
theorem take_le {st : List Int} (hs : st.Pairwise (· < ·)) (y : Int) : ∀ s ∈ st.take (cnt st y), s ≤ y := by
  intro s h
  obtain ⟨i, hi, rfl⟩ := List.mem_take_iff_getElem.mp h
  have h1 : i < st.length := by lia
  have := (lt_cnt_iff (c := y) hs h1).mpr (by lia)
  rwa [List.getD_eq_getElem?_getD, List.getElem?_eq_getElem h1] at this
theorem drop_gt {st : List Int} (hs : st.Pairwise (· < ·)) (y : Int) : ∀ s ∈ st.drop (cnt st y), y < s := by
  intro s h
  obtain ⟨i, hi, rfl⟩ := List.mem_drop_iff_getElem.mp h
  have h2 : ¬ st.getD (cnt st y + i) 0 ≤ y := fun q => by
    have := (lt_cnt_iff (c := y) hs (by lia)).mp q
    lia
  rw [List.getD_eq_getElem?_getD, List.getElem?_eq_getElem (by lia)] at h2
  have e : (st[cnt st y + i]?).getD 0 = st[cnt st y + i] := by rw [List.getElem?_eq_getElem (by lia)]; rfl
  simpa using h2
/-- what a put makes of a range map -/
structure RmPut (st : List Int) (dv : List Dv) (c : Int) (z : Dv) (st' : List Int) (dv' : List Dv) : Prop where
  sorted : st'.Pairwise (· < ·)
  len : st'.length = dv'.length
  pos : 0 < cnt st' 0
  le : st'.length ≤ st.length + 2
  get : ∀ x, 0 ≤ x → rget st' dv' x = if x = c then z else rget st dv x
  mem : ∀ d ∈ dv', d ∈ dv ∨ d = z
theorem getD_app_l {a b : List Dv} {i : Nat} (h : i < a.length) : (a ++ b).getD i (.b false) = a.getD i (.b false) := by
  rw [List.getD_eq_getElem?_getD, List.getD_eq_getElem?_getD, List.getElem?_append_left h]
theorem getD_app_r {a b : List Dv} {i : Nat} (h : a.length ≤ i) : (a ++ b).getD i (.b false) = b.getD (i - a.length) (.b false) := by
  rw [List.getD_eq_getElem?_getD, List.getD_eq_getElem?_getD, List.getElem?_append_right h]
theorem getD_take' {a : List Dv} {i n : Nat} (h : i < n) : (a.take n).getD i (.b false) = a.getD i (.b false) := by
  rw [List.getD_eq_getElem?_getD, List.getD_eq_getElem?_getD, List.getElem?_take_of_lt h]
theorem getD_drop' {a : List Dv} {i n : Nat} : (a.drop n).getD i (.b false) = a.getD (n + i) (.b false) := by
  rw [List.getD_eq_getElem?_getD, List.getD_eq_getElem?_getD, List.getElem?_drop]
def PutX (st : List Int) (dv : List Dv) (c : Int) (z : Dv) (X : List Int) (X' : List Dv) : Prop := (X = [c] ∧ X' = [z]) ∨ (X = [] ∧ X' = [] ∧ dv.getD (cnt st (c - 1) - 1) (.b false) = z)
def PutY (st : List Int) (dv : List Dv) (c : Int) (z : Dv) (Y : List Int) (Y' : List Dv) : Prop := (Y = [c + 1] ∧ Y' = [dv.getD (cnt st (c + 1) - 1) (.b false)]) ∨ (Y = [] ∧ Y' = [] ∧ dv.getD (cnt st (c + 1) - 1) (.b false) = z)
theorem rput_law {st : List Int} {dv : List Dv} {c : Int} {z : Dv} {X Y : List Int} {X' Y' : List Dv} (hs : st.Pairwise (· < ·)) (hl : st.length = dv.length) (hz : 0 < cnt st 0) (hc : 1 ≤ c)
    (hX : PutX st dv c z X X') (hY : PutY st dv c z Y Y') :
    RmPut st dv c z (st.take (cnt st (c - 1)) ++ (X ++ Y) ++ st.drop (cnt st (c + 1))) (dv.take (cnt st (c - 1)) ++ (X' ++ Y') ++ dv.drop (cnt st (c + 1))) := by
  have c1 : cnt st 0 ≤ cnt st (c - 1) := cnt_mono (by lia) st
  have c2 : cnt st (c - 1) ≤ cnt st (c + 1) := cnt_mono (by lia) st
  have c3 := cnt_le st (c + 1)
  have hA := take_le hs (c - 1)
  have hB := drop_gt hs (c + 1)
  have hAl : (st.take (cnt st (c - 1))).length = cnt st (c - 1) := by rw [List.length_take]; lia
  have hA'l : (dv.take (cnt st (c - 1))).length = cnt st (c - 1) := by rw [List.length_take]; lia
  have lX : X.length = X'.length := by rcases hX with ⟨rfl, rfl⟩ | ⟨rfl, rfl, _⟩ <;> rfl
  have lY : Y.length = Y'.length := by rcases hY with ⟨rfl, rfl⟩ | ⟨rfl, rfl, _⟩ <;> rfl
  have lX1 : X.length ≤ 1 := by rcases hX with ⟨rfl, rfl⟩ | ⟨rfl, rfl, _⟩ <;> simp
  have lY1 : Y.length ≤ 1 := by rcases hY with ⟨rfl, rfl⟩ | ⟨rfl, rfl, _⟩ <;> simp
  have mX : ∀ s ∈ X, s = c := by rcases hX with ⟨rfl, rfl⟩ | ⟨rfl, rfl, _⟩ <;> simp
  have mY : ∀ s ∈ Y, s = c + 1 := by rcases hY with ⟨rfl, rfl⟩ | ⟨rfl, rfl, _⟩ <;> simp
  have cX : ∀ x, cnt X x = if c ≤ x then X.length else 0 := fun x => by
    split
    · exact cnt_all fun s h => by rw [mX s h]; assumption
    · exact cnt_zero fun s h => by rw [mX s h]; lia
  have cY : ∀ x, cnt Y x = if c + 1 ≤ x then Y.length else 0 := fun x => by
    split
    · exact cnt_all fun s h => by rw [mY s h]; assumption
    · exact cnt_zero fun s h => by rw [mY s h]; lia
  have cA : ∀ x, c - 1 ≤ x → cnt (st.take (cnt st (c - 1))) x = cnt st (c - 1) := fun x hx => by
    rw [cnt_all fun s h => Int.le_trans (hA s h) hx, hAl]
  have cB : ∀ x, x ≤ c + 1 → cnt (st.drop (cnt st (c + 1))) x = 0 := fun x hx => cnt_zero fun s h => by have := hB s h; lia
  have cS : ∀ x, c + 1 ≤ x → cnt st x = cnt st (c + 1) + cnt (st.drop (cnt st (c + 1))) x := fun x hx => by
    have e := cnt_append (st.take (cnt st (c + 1))) (st.drop (cnt st (c + 1))) x
    rw [List.take_append_drop] at e
    rw [e, cnt_all fun s h => Int.le_trans (take_le hs (c + 1) s h) hx, List.length_take]
    congr 1; lia
  have cL : ∀ x, x ≤ c - 1 → cnt st x = cnt (st.take (cnt st (c - 1))) x := fun x hx => by
    have e := cnt_append (st.take (cnt st (c - 1))) (st.drop (cnt st (c - 1))) x
    rw [List.take_append_drop] at e
    rw [e, cnt_zero (st := st.drop _) fun s h => by have := drop_gt hs (c - 1) s h; lia]; rfl
  have cN : ∀ x, cnt (st.take (cnt st (c - 1)) ++ (X ++ Y) ++ st.drop (cnt st (c + 1))) x = cnt (st.take (cnt st (c - 1))) x + (cnt X x + cnt Y x) + cnt (st.drop (cnt st (c + 1))) x := fun x => by
    rw [cnt_append, cnt_append, cnt_append]
  have dl : (st.drop (cnt st (c + 1))).length = st.length - cnt st (c + 1) := List.length_drop
  refine ⟨?_, ?_, ?_, ?_, ?_, ?_⟩
  · rw [List.pairwise_append]
    refine ⟨?_, hs.sublist (List.drop_sublist _ _), ?_⟩
    · rw [List.pairwise_append]
      refine ⟨hs.sublist (List.take_sublist _ _), ?_, ?_⟩
      · rcases hX with ⟨rfl, rfl⟩ | ⟨rfl, rfl, _⟩ <;> rcases hY with ⟨rfl, rfl⟩ | ⟨rfl, rfl, _⟩ <;> first | (simp; done) | (simp; lia)
      · intro a ha b hb
        have := hA a ha
        rcases List.mem_append.mp hb with hb | hb
        · rw [mX b hb]; lia
        · rw [mY b hb]; lia
    · intro a ha b hb
      have h2 := hB b hb
      rcases List.mem_append.mp ha with ha | ha
      · have := hA a ha; lia
      · rcases List.mem_append.mp ha with ha | ha
        · rw [mX a ha]; lia
        · rw [mY a ha]; lia
  · simp only [List.length_append, List.length_take, List.length_drop]; lia
  · rw [cN]
    have : cnt (st.take (cnt st (c - 1))) 0 = cnt st 0 := (cL 0 (by lia)).symm
    lia
  · simp only [List.length_append, List.length_take, List.length_drop]; lia
  · intro x hx
    unfold rget
    rw [cN]
    by_cases h1 : x < c
    · rw [if_neg (by lia), cX, if_neg (by lia), cY, if_neg (by lia), cB x (by lia), ← cL x (by lia)]
      have k1 : cnt st x ≤ cnt st (c - 1) := cnt_mono (by lia) st
      rw [List.append_assoc, getD_app_l (by rw [hA'l]; lia), getD_take' (by lia)]
      rfl
    · by_cases h2 : x = c
      · subst h2
        rw [if_pos rfl, cX, if_pos (by lia), cY, if_neg (by lia), cB x (by lia), cA x (by lia)]
        rcases hX with ⟨rfl, rfl⟩ | ⟨rfl, rfl, hq⟩
        · rw [List.append_assoc, getD_app_r (by rw [hA'l]; simp), hA'l]
          simp
        · rw [List.append_assoc, getD_app_l (by rw [hA'l]; simp; lia), getD_take' (by simp; lia)]
          simpa using hq
      · rw [if_neg h2, cX, if_pos (by lia), cY, if_pos (by lia), cA x (by lia), cS x (by lia)]
        generalize hk : cnt (st.drop (cnt st (c + 1))) x = k
        cases k with
        | succ k =>
          have hlen : (dv.take (cnt st (c - 1)) ++ (X' ++ Y')).length = cnt st (c - 1) + (X.length + Y.length) := by simp only [List.length_append, hA'l]; lia
          rw [getD_app_r (by rw [hlen]; lia), hlen, getD_drop']
          congr 1; lia
        | zero =>
          rcases hY with ⟨rfl, rfl⟩ | ⟨rfl, rfl, hq⟩
          · rw [getD_app_l (by simp only [List.length_append, hA'l, lX, List.length_cons, List.length_nil]; lia), ← List.append_assoc, getD_app_r (by simp only [List.length_append, hA'l, lX, List.length_cons, List.length_nil]; lia)]
            simp only [List.length_append, hA'l, lX, List.length_cons, List.length_nil]
            rw [show cnt st (c - 1) + (X'.length + (0 + 1)) + 0 - 1 - (cnt st (c - 1) + X'.length) = 0 by lia]
            rfl
          · rw [show cnt st (c + 1) + 0 - 1 = cnt st (c + 1) - 1 from rfl, hq]
            rcases hX with ⟨rfl, rfl⟩ | ⟨rfl, rfl, hq'⟩
            · rw [List.append_assoc, getD_app_r (by rw [hA'l]; simp), hA'l]
              simp
            · rw [List.append_assoc, getD_app_l (by rw [hA'l]; simp; lia), getD_take' (by simp; lia)]
              simpa using hq'
  · intro d hd
    rcases List.mem_append.mp hd with hd | hd
    · rcases List.mem_append.mp hd with hd | hd
      · exact .inl (List.mem_of_mem_take hd)
      · rcases List.mem_append.mp hd with hd | hd
        · rcases hX with ⟨rfl, rfl⟩ | ⟨rfl, rfl, _⟩
          · exact .inr (List.mem_singleton.mp hd)
          · cases hd
        · rcases hY with ⟨rfl, rfl⟩ | ⟨rfl, rfl, _⟩
          · rw [List.mem_singleton.mp hd]; exact .inl (dv_mem (by lia))
          · cases hd
    · exact .inl (List.mem_of_mem_drop hd)
section
variable {prog : Program} {w : World} {A : Around} {E : Value → Shared → Prop} {s : Shared} {h₀ : Heap} {L : Addr} {m : Str → Option Value} {news : List (Addr × Obj)}
theorem max_fst {a b : Int} {t u : Tok} {Q : Value → Shared → Prop} (c : b ≤ a) (hh : A.handled = none) (F : Fr h₀ L s.heap m) (N : News h₀ L s.heap news)
    (h : ∀ h' tk, Fr h₀ L h' m → News h₀ L h' news → Q (.int a t) { s with heap := h', toks := tk }) : wpAny (model prog w) A (call (.builtin "max") [.int a t, .int b u]) Q E s :=
  max_two_N hh F N fun h' tk F' N' => by rw [if_neg (by lia), if_neg (by lia)]; exact h h' tk F' N'
theorem min_fst {a b : Int} {t u : Tok} {Q : Value → Shared → Prop} (c : a ≤ b) (hh : A.handled = none) (F : Fr h₀ L s.heap m) (N : News h₀ L s.heap news)
    (h : ∀ h' tk, Fr h₀ L h' m → News h₀ L h' news → Q (.int a t) { s with heap := h', toks := tk }) : wpAny (model prog w) A (call (.builtin "min") [.int a t, .int b u]) Q E s :=
  min_two_N hh F N fun h' tk F' N' => by rw [if_neg (by lia), if_neg (by lia)]; exact h h' tk F' N'
end
local macro_rules | `(tactic| walk_at "call builtin:max") => `(tactic| k_extra "@call builtin:max")
local macro_rules | `(tactic| walk_at "call builtin:min") => `(tactic| k_extra "@call builtin:min")
theorem pick_upto {vs : List Value} {x : Int} (h : 0 ≤ x) : (slicePick vs.toArray none (some x) none).toList = vs.take x.toNat := by
  rw [show (some x : Option Int) = some (x.toNat : Int) from congrArg some (by lia), slicePick_upto']
theorem pick_from {vs : List Value} {x : Int} (h : 0 ≤ x) : (slicePick vs.toArray (some x) none none).toList = vs.drop x.toNat := by
  rw [show (some x : Option Int) = some (x.toNat : Int) from congrArg some (by lia), slicePick_from']
local macro_rules | `(tactic| walk_at "subscriptTail Name Slice ref ref") => `(tactic| k_extra "@subscriptTail Name Slice ref ref")
theorem ints_app : ∀ {a b : List Value} {x y : List Int}, IntsAre a x → IntsAre b y → IntsAre (a ++ b) (x ++ y)
  | _, _, _, _, .nil, h => h
  | _, _, _, _, .cons n t h1, h => .cons n t (ints_app h1 h)
theorem dvs_app : ∀ {a b : List Value} {x y : List Dv}, DvsAre a x → DvsAre b y → DvsAre (a ++ b) (x ++ y)
  | _, _, _, _, .nil, h => h
  | _, _, _, _, .cons hv h1, h => .cons hv (dvs_app h1 h)
theorem dvs_take : ∀ {a : List Value} {x : List Dv} (n : Nat), DvsAre a x → DvsAre (a.take n) (x.take n)
  | _, _, 0, _ => .nil
  | _, _, _ + 1, .nil => .nil
  | _, _, n + 1, .cons hv h => .cons hv (dvs_take n h)
theorem dvs_drop : ∀ {a : List Value} {x : List Dv} (n : Nat), DvsAre a x → DvsAre (a.drop n) (x.drop n)
  | _, _, 0, h => h
  | _, _, _ + 1, .nil => .nil
  | _, _, n + 1, .cons _ h => dvs_drop n h
theorem ints_put {vs ms : List Value} {st ns : List Int} {a b a' b' : Nat} (e1 : a = a') (e2 : b = b') (hi : IntsAre vs st) (hm : IntsAre ms ns) : IntsAre (vs.take a ++ ms ++ vs.drop b) (st.take a' ++ ns ++ st.drop b') := by
  subst e1 e2
  exact ints_app (ints_app (hi.take _) hm) (hi.drop _)
theorem dvs_put {vs ms : List Value} {st ns : List Dv} {a b a' b' : Nat} (e1 : a = a') (e2 : b = b') (hi : DvsAre vs st) (hm : DvsAre ms ns) : DvsAre (vs.take a ++ ms ++ vs.drop b) (st.take a' ++ ns ++ st.drop b') := by
  subst e1 e2
  exact dvs_app (dvs_app (dvs_take _ hi) hm) (dvs_drop _ hi)
/-- behind a put -/
def RputR (x dx : Addr) (q : Nat → Int) (u : Nat → Tok) (dft : Value) (st : List Int) (dv : List Dv) (c : Int) (z : Dv) (v : Value) (mu : List (Addr × Obj)) : Prop :=
  v = .none ∧ ∃ sa va n1 n2 vs ws st' dv', mu = rmL x dx sa va q u n1 n2 dft vs ws ∧ ([x, dx, sa, va] : List Nat).Nodup ∧ IntsAre vs st' ∧ DvsAre ws dv' ∧ RmPut st dv c z st' dv'
theorem rput_done {x dx sa va : Addr} {q : Nat → Int} {u : Nat → Tok} {dft : Value} {st : List Int} {dv : List Dv} {c : Int} {z : Dv} {n1 n2 : Nat} {vs ws : List Value} {st' : List Int} {dv' : List Dv} {g h' : Heap} {L : Addr} {s : Shared} {tk' : Nat} {m' : Str → Option Value} {mu : List (Addr × Obj)} (F : Fr g L h' m') (N : News g L h' mu)
    (m1 : (x, (⟨.ref 237, some dx, .plain, #[]⟩ : Obj)) ∈ mu) (m2 : (dx, dictOf [⟨q 0, .str (Str.ofString "default") (u 0), dft⟩, ⟨q 1, .str (Str.ofString "starts") (u 1), .ref sa⟩, ⟨q 2, .str (Str.ofString "values") (u 2), .ref va⟩] 3) ∈ mu) (m3 : (sa, W.listOf vs.toArray n1) ∈ mu) (m4 : (va, W.listOf ws.toArray n2) ∈ mu)
    (nd : ([x, dx, sa, va] : List Nat).Nodup) (hi : IntsAre vs st') (hd : DvsAre ws dv') (hp : RmPut st dv c z st' dv') : DoneM g L s (RputR x dx q u dft st dv c z) .next { s with heap := h', toks := tk' } :=
  DoneM.mk (mu' := rmL x dx sa va q u n1 n2 dft vs ws) F N (List.forall_mem_cons.mpr ⟨m1, List.forall_mem_cons.mpr ⟨m2, List.forall_mem_cons.mpr ⟨m3, List.forall_mem_cons.mpr ⟨m4, List.forall_mem_nil _⟩⟩⟩⟩) ⟨rfl, sa, va, n1, n2, vs, ws, st', dv', rfl, nd, hi, hd, hp⟩
/-- a join behind an if: the state's map and ledger at some c -/
inductive JoinS {σ : Type} (g : Heap) (L : Addr) (s : Shared) (m : σ → Str → Option Value) (led : σ → List (Addr × Obj)) (K : σ → Prop) (fl : Flow) (s' : Shared) : Prop
  | mk (c : σ) (h' : Heap) (tk' : Nat) (q1 : fl = .next) (q2 : s' = { s with heap := h', toks := tk' }) (q3 : Fr g L h' (m c)) (q4 : News g L h' (led c)) (q5 : K c) : JoinS g L s m led K fl s'
theorem JoinS.fin {σ : Type} {g h' : Heap} {L : Addr} {s : Shared} {m : σ → Str → Option Value} {m' : Str → Option Value} {led : σ → List (Addr × Obj)} {mu : List (Addr × Obj)} {K : σ → Prop} {tk' : Nat} (c : σ) (F : Fr g L h' m') (N : News g L h' mu) (e : ∀ y, m' y = m c y) (hs : ∀ p ∈ led c, p ∈ mu) (k : K c) : JoinS g L s m led K .next { s with heap := h', toks := tk' } :=
  .mk c h' tk' rfl rfl ((funext e : m' = m c) ▸ F) (fun p hp => N p (hs p hp)) k
theorem join_If {σ : Type} {M : Model} {A : Around} {E : Value → Shared → Prop} {s0 s : Shared} {st : Stmt} {env : Env} {Q : Flow → Shared → Prop} {g : Heap} {L : Addr} (m : σ → Str → Option Value) (led : σ → List (Addr × Obj)) (K : σ → Prop)
    (body : wpAny M A (exec st env) (JoinS g L s m led K) E s0) (next : ∀ c h' tk', Fr g L h' (m c) → News g L h' (led c) → K c → Q .next { s with heap := h', toks := tk' }) : wpAny M A (exec st env) Q E s0 :=
  wpAny_mono body (fun fl s' h => by obtain ⟨c, h', tk', rfl, rfl, F, N, k⟩ := h; exact next c h' tk' F N k) fun _ _ x => x
structure PutL where
  S : Addr
  V : Addr
  ys : List Value
  zs : List Value
  ny : Nat
  nz : Nat
def dPL : PutL := ⟨0, 0, [], [], 0, 0⟩
inductive PutK1 (st : List Int) (dv : List Dv) (c : Int) (z : Dv) (p : PutL) : Prop
  | mk (Y : List Int) (Y' : List Dv) (a : IntsAre p.ys (c :: Y)) (b : DvsAre p.zs (z :: Y')) (h : PutY st dv c z Y Y') (l1 : p.ys.length ≤ 2) (l2 : p.zs.length ≤ 2) : PutK1 st dv c z p
inductive PutK2 (x dx sa va : Addr) (st : List Int) (dv : List Dv) (c : Int) (z : Dv) (p : PutL) : Prop
  | mk (X Y : List Int) (X' Y' : List Dv) (a : IntsAre p.ys (X ++ Y)) (b : DvsAre p.zs (X' ++ Y')) (hX : PutX st dv c z X X') (hY : PutY st dv c z Y Y') (l1 : p.ys.length ≤ 2) (l2 : p.zs.length ≤ 2)
    (b1 : x < p.S ∧ dx < p.S ∧ sa < p.S ∧ va < p.S) (b2 : x < p.V ∧ dx < p.V ∧ sa < p.V ∧ va < p.V) : PutK2 x dx sa va st dv c z p
section
variable {M : Model} {A : Around} {E : Value → Shared → Prop} {s0 s : Shared} {st : Stmt} {env : Env} {Q : Flow → Shared → Prop} {g h : Heap} {L : Addr}
theorem put_j1 {m : Str → Option Value} {T V S : Addr} {oT oV oS : Obj} {R : List (Addr × Obj)} (x dx sa va : Addr) (q : Nat → Int) (u : Nat → Tok) (n1 n2 : Nat) (dft : Value) (vs ws : List Value) (K : PutL → Prop) (_F : Fr g L h m) (_N : News g L h ((T, oT) :: (V, oV) :: (S, oS) :: R))
    (body : wpAny M A (exec st env) (JoinS g L s (fun _ => m) (fun p : PutL => [(V, W.listOf p.zs.toArray p.nz), (S, W.listOf p.ys.toArray p.ny), (x, ⟨.ref 237, some dx, .plain, #[]⟩), (dx, dictOf [⟨q 0, .str (Str.ofString "default") (u 0), dft⟩, ⟨q 1, .str (Str.ofString "starts") (u 1), .ref sa⟩, ⟨q 2, .str (Str.ofString "values") (u 2), .ref va⟩] 3), (sa, W.listOf vs.toArray n1), (va, W.listOf ws.toArray n2)]) K) E s0)
    (next : ∀ p h' tk', Fr g L h' m → News g L h' [(V, W.listOf p.zs.toArray p.nz), (S, W.listOf p.ys.toArray p.ny), (x, ⟨.ref 237, some dx, .plain, #[]⟩), (dx, dictOf [⟨q 0, .str (Str.ofString "default") (u 0), dft⟩, ⟨q 1, .str (Str.ofString "starts") (u 1), .ref sa⟩, ⟨q 2, .str (Str.ofString "values") (u 2), .ref va⟩] 3), (sa, W.listOf vs.toArray n1), (va, W.listOf ws.toArray n2)] → K p → Q .next { s with heap := h', toks := tk' }) : wpAny M A (exec st env) Q E s0 := join_If _ _ K body next
theorem put_j2 {m : Str → Option Value} {V S : Addr} {R : List (Addr × Obj)} (x dx sa va : Addr) (q : Nat → Int) (u : Nat → Tok) (n1 n2 : Nat) (dft : Value) (vs ws : List Value) (K : PutL → Prop) (_F : Fr g L h (fun y => if y = Str.ofString "starts" then some (.ref S) else if y = Str.ofString "values" then some (.ref V) else m y)) (_N : News g L h R)
    (body : wpAny M A (exec st env) (JoinS g L s (fun p y => if y = Str.ofString "starts" then some (.ref p.S) else if y = Str.ofString "values" then some (.ref p.V) else m y) (fun p : PutL => [(p.V, W.listOf p.zs.toArray p.nz), (p.S, W.listOf p.ys.toArray p.ny), (x, ⟨.ref 237, some dx, .plain, #[]⟩), (dx, dictOf [⟨q 0, .str (Str.ofString "default") (u 0), dft⟩, ⟨q 1, .str (Str.ofString "starts") (u 1), .ref sa⟩, ⟨q 2, .str (Str.ofString "values") (u 2), .ref va⟩] 3), (sa, W.listOf vs.toArray n1), (va, W.listOf ws.toArray n2)]) K) E s0)
    (next : ∀ p h' tk', Fr g L h' (fun y => if y = Str.ofString "starts" then some (.ref p.S) else if y = Str.ofString "values" then some (.ref p.V) else m y) → News g L h' [(p.V, W.listOf p.zs.toArray p.nz), (p.S, W.listOf p.ys.toArray p.ny), (x, ⟨.ref 237, some dx, .plain, #[]⟩), (dx, dictOf [⟨q 0, .str (Str.ofString "default") (u 0), dft⟩, ⟨q 1, .str (Str.ofString "starts") (u 1), .ref sa⟩, ⟨q 2, .str (Str.ofString "values") (u 2), .ref va⟩] 3), (sa, W.listOf vs.toArray n1), (va, W.listOf ws.toArray n2)] → K p → Q .next { s with heap := h', toks := tk' }) : wpAny M A (exec st env) Q E s0 := join_If _ _ K body next
end
section
variable {g h' : Heap} {L : Addr} {s : Shared} {m : Str → Option Value} {tk' : Nat} {st : List Int} {dv : List Dv} {c : Int} {z : Dv} {T V S T2 : Addr} {oT oT2 o1 o2 : Obj} {k1 k2 : Nat} {R : List (Addr × Obj)} {v vb : Value} {t1 tt : Tok}
theorem put_e1 (F : Fr g L h' m) (N : News g L h' ((T, oT) :: (V, W.listOf (#[v].push vb) k1) :: (S, W.listOf (#[.int c t1].push (.int (c + 1) tt)) k2) :: (T2, oT2) :: R)) (hv : IsDv v z) (hb : IsDv vb (dv.getD (cnt st (c + 1) - 1) (.b false))) :
    JoinS g L s (fun _ => m) (fun p : PutL => (V, W.listOf p.zs.toArray p.nz) :: (S, W.listOf p.ys.toArray p.ny) :: R) (PutK1 st dv c z) .next { s with heap := h', toks := tk' } :=
  .mk ⟨0, 0, [.int c t1, .int (c + 1) tt], [v, vb], k2, k1⟩ h' tk' rfl rfl F (fun p hp => N p (.tail _ (by
    rcases hp with _ | ⟨_, _ | ⟨_, hp⟩⟩
    · exact .head _
    · exact .tail _ (.head _)
    · exact .tail _ (.tail _ (.tail _ hp))))) (.mk [c + 1] [dv.getD (cnt st (c + 1) - 1) (.b false)] (.cons _ _ (.cons _ _ .nil)) (.cons hv (.cons hb .nil)) (.inl ⟨rfl, rfl⟩) (Nat.le_refl 2) (Nat.le_refl 2))
theorem put_e2 (F : Fr g L h' m) (N : News g L h' ((T, oT) :: (V, W.listOf #[v] k1) :: (S, W.listOf #[.int c t1] k2) :: (T2, oT2) :: R)) (hv : IsDv v z) (e : dv.getD (cnt st (c + 1) - 1) (.b false) = z) :
    JoinS g L s (fun _ => m) (fun p : PutL => (V, W.listOf p.zs.toArray p.nz) :: (S, W.listOf p.ys.toArray p.ny) :: R) (PutK1 st dv c z) .next { s with heap := h', toks := tk' } :=
  .mk ⟨0, 0, [.int c t1], [v], k2, k1⟩ h' tk' rfl rfl F (fun p hp => N p (.tail _ (by
    rcases hp with _ | ⟨_, _ | ⟨_, hp⟩⟩
    · exact .head _
    · exact .tail _ (.head _)
    · exact .tail _ (.tail _ (.tail _ hp))))) (.mk [] [] (.cons _ _ .nil) (.cons hv .nil) (.inr ⟨rfl, rfl, e⟩) (Nat.le_succ 1) (Nat.le_succ 1))
theorem put_e3 {x dx sa va D1 D2 D3 : Addr} {o3 : Obj} {p8 : PutL} {Y : List Int} {Y' : List Dv} (F : Fr g L h' (fun y => if y = Str.ofString "starts" then some (.ref D2) else if y = Str.ofString "values" then some (.ref D1) else if y = Str.ofString "starts" then some (.ref S) else if y = Str.ofString "values" then some (.ref V) else m y))
    (N : News g L h' ((D3, o3) :: (D1, W.listOf (p8.zs.drop (Int.toNat 1)).toArray k1) :: (D2, W.listOf (p8.ys.drop (Int.toNat 1)).toArray k2) :: (V, o1) :: (S, o2) :: R)) (ya : IntsAre p8.ys (c :: Y)) (yb : DvsAre p8.zs (z :: Y')) (e : dv.getD (cnt st (c - 1) - 1) (.b false) = z) (hY : PutY st dv c z Y Y') (l1 : p8.ys.length ≤ 2) (l2 : p8.zs.length ≤ 2)
    (b2 : V < D2 ∧ S < D2 ∧ x < D2 ∧ dx < D2 ∧ sa < D2 ∧ va < D2) (b1 : D2 < D1 ∧ V < D1 ∧ S < D1 ∧ x < D1 ∧ dx < D1 ∧ sa < D1 ∧ va < D1) :
    JoinS g L s (fun p y => if y = Str.ofString "starts" then some (.ref p.S) else if y = Str.ofString "values" then some (.ref p.V) else m y) (fun p : PutL => (p.V, W.listOf p.zs.toArray p.nz) :: (p.S, W.listOf p.ys.toArray p.ny) :: R) (PutK2 x dx sa va st dv c z) .next { s with heap := h', toks := tk' } :=
  .mk ⟨D2, D1, p8.ys.drop (Int.toNat 1), p8.zs.drop (Int.toNat 1), k2, k1⟩ h' tk' rfl rfl ((funext fun y => by by_cases e1 : y = Str.ofString "starts" <;> by_cases e2 : y = Str.ofString "values" <;> simp only [e1, e2, if_true, if_false] : (fun y => if y = Str.ofString "starts" then some (Value.ref D2) else if y = Str.ofString "values" then some (.ref D1) else if y = Str.ofString "starts" then some (.ref S) else if y = Str.ofString "values" then some (.ref V) else m y) = (fun y => if y = Str.ofString "starts" then some (.ref D2) else if y = Str.ofString "values" then some (.ref D1) else m y)) ▸ F) (fun p hp => N p (.tail _ (by
    rcases hp with _ | ⟨_, _ | ⟨_, hp⟩⟩
    · exact .head _
    · exact .tail _ (.head _)
    · exact .tail _ (.tail _ (.tail _ (.tail _ hp)))))) (.mk [] Y [] Y' (ya.drop 1) (dvs_drop 1 yb) (.inr ⟨rfl, rfl, e⟩) hY (Nat.le_trans (List.length_drop ▸ Nat.sub_le _ _) l1) (Nat.le_trans (List.length_drop ▸ Nat.sub_le _ _) l2) b2.2.2 b1.2.2.2)
theorem put_e4 {x dx sa va : Addr} {p8 : PutL} {Y : List Int} {Y' : List Dv} (F : Fr g L h' (fun y => if y = Str.ofString "starts" then some (.ref S) else if y = Str.ofString "values" then some (.ref V) else m y))
    (N : News g L h' ((V, W.listOf p8.zs.toArray p8.nz) :: (S, W.listOf p8.ys.toArray p8.ny) :: R)) (ya : IntsAre p8.ys (c :: Y)) (yb : DvsAre p8.zs (z :: Y')) (hY : PutY st dv c z Y Y') (l1 : p8.ys.length ≤ 2) (l2 : p8.zs.length ≤ 2)
    (b1 : T < S ∧ x < S ∧ dx < S ∧ sa < S ∧ va < S) (b2 : S < V ∧ T < V ∧ x < V ∧ dx < V ∧ sa < V ∧ va < V) :
    JoinS g L s (fun p y => if y = Str.ofString "starts" then some (.ref p.S) else if y = Str.ofString "values" then some (.ref p.V) else m y) (fun p : PutL => (p.V, W.listOf p.zs.toArray p.nz) :: (p.S, W.listOf p.ys.toArray p.ny) :: R) (PutK2 x dx sa va st dv c z) .next { s with heap := h', toks := tk' } :=
  .mk ⟨S, V, p8.ys, p8.zs, p8.ny, p8.nz⟩ h' tk' rfl rfl F N (.mk [c] Y [z] Y' ya yb (.inl ⟨rfl, rfl⟩) hY l1 l2 b1.2 b2.2.2)
end
local  macro_rules | `(tactic| walk_at "exec If") => `(tactic| (k_here; k_extra "ifj"))
theorem c_rput : ∀ (w : World) (x : Addr) (dx : Addr) (sa : Addr) (va : Addr) (q : Nat → Int) (u : Nat → Tok) (n1 : Nat) (n2 : Nat) (dft : Value) (vs : List Value) (ws : List Value) (st : List Int) (dv : List Dv) (c : Int) (t1 : Tok) (t2 : Tok) (v : Value) (z : Dv), (IsDv v z) → (8704 ≤ c) → (c < 8720) → (IntsAre vs st) → (DvsAre ws dv) → (st.Pairwise (· < ·)) → (st.length < 900) → (st.length = dv.length) → (0 < cnt st 0) → (∀ d ∈ dv, Same d z) → (([x, dx, sa, va] : List Nat).Nodup) → CtrM w 220 6 [.ref x, .int c t1, .int c t2, v] (rmL x dx sa va q u n1 n2 dft vs ws) (fun _ => True) (RputR x dx q u dft st dv c z) := by
  intro w x dx sa va q u n1 n2 dft vs ws st dv c t1 t2 v z hvz hc hc' hi hd hs hl hld hz hK hnd
  k_dflt (refine' CtrM.bodyX Mono.top (binds := [(Str.ofString "self", .ref x), (Str.ofString "first", .int c t1), (Str.ofString "last", .int c t2), (Str.ofString "value", v)]) ?ho ?hcd ?hbind ?hloc ?h ?hcell ?hd1 ?hco ?hgen ?hk; (case ho => k_is); (case hcd => k_is); (case hbind => first | exact fun _ _ => BindsTo.of_eq rfl | exact fun _ X' => binds_K X' rfl (by k_is) rfl rfl rfl); (case hloc => exact locs rfl); (case hcell => decide); (case hd1 => decide); (case hco => exact rfl); (case hgen => exact rfl); (case hk => exact rfl))
  intro kx
  revert hvz hc hc' hi hd hs hl hld hz hK hnd
  revert w x dx sa va q u n1 n2 dft vs ws st dv c t1 t2 v z kx
  refine seal8 (dW, default, default, default, default, default, default, default) ?_
  generalize sl8_0 _ _ = w, sl8_1 _ _ = x, sl8_2 _ _ = dx, sl8_3 _ _ = sa, sl8_4 _ _ = va, sl8_5 _ _ = q, sl8_6 _ _ = u, sl8_7 _ _ = n1
  refine seal8 (default, default, default, default, default, default, default, default) ?_
  generalize sl8_0 _ _ = n2, sl8_1 _ _ = dft, sl8_2 _ _ = vs, sl8_3 _ _ = ws, sl8_4 _ _ = st, sl8_5 _ _ = dv, sl8_6 _ _ = c, sl8_7 _ _ = t1
  refine seal3 (default, default, (.b false)) ?_
  generalize sl3_0 _ _ = t2, sl3_1 _ _ = v, sl3_2 _ _ = z
  refine seal1 (dCx) ?_
  generalize eps _ _ = kx
  intro hvz hc hc' hi hd hs hl hld hz hK hnd
  w_top off
  intro B F N X T hdp hun hP
  have _ : Dm := Dm.mk
  have _ : Rim := Rim.mk
  k_with_none
  k_with "@call ref" => ((k_here; (with_reducible show wpAny _ _ (call (Value.ref 187) _) _ _ _); k_dflt (refine' Ctr.useT (c_half _ _ _ _ _ _ (by assumption) (by assumption) (by assumption)) ?k1_q9 ?k2_q9 ?k3_q9 ?k4_q9 ?k5_q9 ?k6_q9 ?k7_q9 ?k8_q9 ?k9_q9 ?_; (case k1_q9 => k_asm); (case k2_q9 => k_asm); (case k3_q9 => k_asm); (case k4_q9 => k_asm); (case k5_q9 => k_asm); (case k6_q9 => first | exact rfl | assumption); (case k7_q9 => is_list); (case k8_q9 => ktr_room); (case k9_q9 => ktr_units)); intro t9 h9 tk9 st9 F9 N9; (try k_sweep); (try k_fold)); (all_goals (try ((with_reducible show wpAny _ _ _ _ _ _); (try revert t9); (try revert h9); (try revert tk9); (try revert st9); (try revert F9); (try revert N9); intros))))
  k_with "@binaryOp Add ref ref" => ((k_here; k_extra "add"))
  k_with "@call ref" => ((k_here; (with_reducible show wpAny _ _ (call (Value.ref 192) _) _ _ _); k_dflt (refine' Ctr.useV (c_like _ _ _ _ _ (by assumption) (by assumption) (by assumption)) ?k1_q9 ?k2_q9 ?k3_q9 ?k4_q9 ?k5_q9 ?k6_q9 ?k7_q9 ?k8_q9 ?k9_q9 ?_; (case k1_q9 => k_asm); (case k2_q9 => k_asm); (case k3_q9 => k_asm); (case k4_q9 => k_asm); (case k5_q9 => k_asm); (case k6_q9 => first | exact rfl | assumption); (case k7_q9 => trivial); (case k8_q9 => ktr_room); (case k9_q9 => ktr_units)); intro h9 tk9 st9 F9 N9; (try k_sweep); (try k_fold)); (all_goals (try ((with_reducible show wpAny _ _ _ _ _ _); (try revert h9); (try revert tk9); (try revert st9); (try revert F9); (try revert N9); intros))))
  k_with "@call builtin:max" => ((k_here; (with_reducible show wpAny _ _ (call (Value.builtin "max") [Value.int _ _, Value.int _ _]) _ _ _); k_dflt (refine' max_fst ?c_q9 ?hh_q9 ?F_q9 ?N_q9 ?_; (case c_q9 => lia); (case hh_q9 => rfl); (case F_q9 => k_asm); (case N_q9 => k_asm)); intro h9 tk9 F9 N9); (all_goals (try ((with_reducible show wpAny _ _ _ _ _ _); (try revert h9); (try revert tk9); (try revert F9); (try revert N9); intros))))
  k_with "@call builtin:min" => ((k_here; (with_reducible show wpAny _ _ (call (Value.builtin "min") [Value.int _ _, Value.int _ _]) _ _ _); k_dflt (refine' min_fst ?c_q9 ?hh_q9 ?F_q9 ?N_q9 ?_; (case c_q9 => lia); (case hh_q9 => rfl); (case F_q9 => k_asm); (case N_q9 => k_asm)); intro h9 tk9 F9 N9); (all_goals (try ((with_reducible show wpAny _ _ _ _ _ _); (try revert h9); (try revert tk9); (try revert F9); (try revert N9); intros))))
  k_with "@subscriptTail" => ((k_here; (with_reducible show wpAny _ _ (subscriptTail _ _ (Value.ref _) (Value.int _ _)) _ _ _); (with_unfolding_all refine' my_item ?k1_q9 ?k2_q9 ?k3_q9 ?k4_q9 ?_ ?k6_q9; (case k4_q9 => assumption); (case k1_q9 => exact News.isList (by k_asm) (by k_mem)); (case k2_q9 => lia); (case k3_q9 => lia); (case k6_q9 => with_unfolding_all rfl); k_whole)))
  k_with "@subscriptTail Name Slice ref ref" => ((k_here; ((have gX : List Dv := by assumption); clear gX); (with_reducible show wpAny _ _ (subscriptTail _ (PySem.Expr.Slice _ _ none _) (Value.ref _) (Value.ref _)) _ _ _); k_dflt (refine' kmk_slice_lit ?F_q9 ?N_q9 ?l_q9 ?p_q9 ?q_q9 ?e_q9 ?_ ?s_q9 ?t_q9 ?z_q9; (case F_q9 => k_asm); (case N_q9 => k_asm); (case l_q9 => kmk_list); (case p_q9 => kmk_part); (case q_q9 => kmk_part); (case e_q9 => first | ((with_reducible show (slicePick _ none _ none).toList = _); exact pick_upto (by lia)) | ((with_reducible show (slicePick _ _ none none).toList = _); exact pick_from (by lia))); (case s_q9 => with_unfolding_all rfl); (case t_q9 => kmk_pure); (case z_q9 => simp only [List.size_toArray, List.length_cons, List.length_nil]; rw [PySem.sizeLine_eq]; lia)); intro D' h' F' N' l1; (try k_lt l1); (try k_sweep)); (all_goals (try ((with_reducible show wpAny _ _ _ _ _ _); (try revert D'); (try revert h'); (try revert F'); (try revert N'); (try revert l1); (try revert gX); intros))))
  k_with "k0" => (k_here; (with_reducible show wpAny _ _ (callWith _ (Value.ref _) _ (backTo _ (starEach [] _)) []) _ _ _); k_dflt (refine' callWith_K0 ?k1_q9 ?k2_q9 ?_; (case k1_q9 => first | with_reducible assumption | exact Frag.In.keeps (by with_reducible assumption) (Fr.keep (by with_reducible assumption))); (case k2_q9 => k_is); k_whole))
  k_with "fold" => (k_fold; (with_reducible rename Dm => d9); revert d9; revert ek; revert qk; intro qk ek _)
  k_with "seal0" => k_extra "seal"
  k_with "seal" =>
    (with_reducible show wpAny _ _ (execs (_ :: _) _) _ _ _)
    (try k_extra "preseal")
    (fail_if_success (have y9 := ‹_›; (with_reducible have y8 : Rim := y9)))
    (repeat ((fail_if_success (have y9 := ‹_›; (with_reducible have y8 : Rim := y9))); first | ((fail_if_success (have y9 := ‹_›; have y8 : (_ : Prop) := y9)); clear (‹_›)) | revert (‹_›)))
    (repeat (first
      | ((with_reducible refine seal2 dHT ?_); (generalize sl2_0 _ _ = z8, sl2_1 _ _ = z7))
      | ((with_reducible refine seal1 dHp ?_); (generalize eps _ _ = z8))
      | ((with_reducible refine seal1 (0 : Nat) ?_); (generalize eps _ _ = z8))
      | ((with_reducible refine seal1 default ?_); (generalize eps _ _ = z8))
      | (with_reducible intro _)))
    ((with_reducible rename Rim => m9); revert m9; intro _)

    k_with "noclose" => skip
    k_with "preseal" => dsimp only
  simp only [rmL] at N
  have hlen := hi.length
  have hlw := hd.length
  simp only [List.nodup_cons, List.mem_cons, List.not_mem_nil, or_false, not_or, List.nodup_nil, and_true, not_false_eq_true] at hnd
  have hl' : st.length < 1000 := by lia
  have c1 := cnt_mono (show 0 ≤ c - 1 by lia) st
  have c2 := cnt_mono (show c - 1 ≤ c + 1 by lia) st
  have c3 := cnt_le st (c + 1)
  obtain ⟨vb, hvb, hdb⟩ := hd.get (i := cnt st (c + 1) - 1) (by lia)
  obtain ⟨va', hva, hda⟩ := hd.get (i := cnt st (c - 1) - 1) (by lia)
  have hkb := hK _ (dv_mem (i := cnt st (c + 1) - 1) (by lia))
  have hka := hK _ (dv_mem (i := cnt st (c - 1) - 1) (by lia))
  have hvb' : ws[((cnt st (c + 1) : Int) - 1 + 1 - 1).toNat]? = some vb := by rw [show ((cnt st (c + 1) : Int) - 1 + 1 - 1).toNat = cnt st (c + 1) - 1 by lia]; exact hvb
  have hva' : ws[((cnt st (c - 1) : Int) - 1 + 1 - 1).toNat]? = some va' := by rw [show ((cnt st (c - 1) : Int) - 1 + 1 - 1).toNat = cnt st (c - 1) - 1 by lia]; exact hva
  (revert vb va'; refine seal1 (default) ?_; generalize eps _ _ = vb; intro hvb hdb; refine seal1 (default) ?_; generalize eps _ _ = va'; intro hva hda hvb' hva')
  k_with "add" =>
    k_dflt (refine' kmk_add_lit ?F ?N ?a ?b ?e ?_ ?z; (case F => k_asm); (case N => k_asm); (case a => kmk_list); (case b => kmk_list); (case e => exact rfl); (case z => simp only [Array.toList_push, Array.length_toList, Array.size_append, List.size_toArray, List.length_append, List.length_take, List.length_drop, List.length_cons, List.length_nil]; rw [PySem.sizeLine_eq]; lia))
    intro D' h' F' N' l1
    (try k_lt l1)
    (try k_sweep)
  k_with "ifj" =>
    (fail_if_success (with_reducible show wpAny _ _ _ (JoinS _ _ _ _ _ _) _ _))
    first
      | ((with_reducible show wpAny _ _ (exec (Stmt.If (PySem.Expr.BoolOp _ [PySem.Expr.Compare _ _ _ _, PySem.Expr.UnaryOp _ _ _] _) _ _ _) _) _ _ _)
         (with_reducible rename Fr _ _ _ _ => F7)
         (with_reducible rename News _ _ _ _ => N7)
         k_dflt (refine' put_j1 (s := kx.s) x dx sa va q u n1 n2 dft vs ws (PutK1 st dv c z) F7 N7 ?_ ?_)
         rotate_left
         clear F7 N7
         intro p8 h9 tk9 F9 N9 K9
         obtain ⟨Y, Y', ya, yb, hY, yl1, yl2⟩ := K9
         dsimp only
         (revert p8 h9 tk9 Y Y'; refine seal3 (dPL, default, default) ?_; generalize sl3_0 _ _ = p8, sl3_1 _ _ = h9, sl3_2 _ _ = tk9; intro F9 N9; refine seal2 (default, default) ?_; generalize sl2_0 _ _ = Y, sl2_1 _ _ = Y'; intro ya yb hY yl1 yl2)
         rotate_right)
      | ((with_reducible show wpAny _ _ (exec (Stmt.If (PySem.Expr.BoolOp _ _ _) _ _ _) _) _ _ _)
         (with_reducible rename Fr _ _ _ _ => F7)
         (with_reducible rename News _ _ _ _ => N7)
         k_dflt (refine' put_j2 (s := kx.s) x dx sa va q u n1 n2 dft vs ws (PutK2 x dx sa va st dv c z) F7 N7 ?_ ?_)
         rotate_left
         clear F7 N7
         intro p6 h9 tk9 F9 N9 K9
         obtain ⟨X6, Y6, X7, Y7, xa, xb, hX, hY6, yl3, yl4, b1, b2⟩ := K9
         dsimp only
         (revert p6 h9 tk9 X6 Y6 X7 Y7; refine seal3 (dPL, default, default) ?_; generalize sl3_0 _ _ = p6, sl3_1 _ _ = h9, sl3_2 _ _ = tk9; intro F9 N9; refine seal3 (default, default, default) ?_; generalize sl3_0 _ _ = X6, sl3_1 _ _ = Y6, sl3_2 _ _ = X7; refine seal1 (default) ?_; generalize eps _ _ = Y7; intro xa xb hX hY6 yl3 yl4 b1 b2)
         rotate_right)
    all_goals (try ((with_reducible rename Rim => m9); revert m9; intro _))
  ((try ((with_reducible rename Rim => m9); revert m9; intro _)); k_steps)
  all_goals (try dsimp only)
  all_goals first
    | (refine' rput_done (st' := st.take (cnt st (c - 1)) ++ (X6 ++ Y6) ++ st.drop (cnt st (c + 1))) (dv' := dv.take (cnt st (c - 1)) ++ (X7 ++ Y7) ++ dv.drop (cnt st (c + 1))) ?F ?N ?m1 ?m2 ?m3 ?m4 ?nd ?hi ?hd ?hp; (case hp => exact rput_law hs hld hz (by lia) hX hY6); (case F => assumption); (case N => assumption); (case m1 => k_mem); (case m2 => k_mem); (case m3 => k_mem); (case m4 => k_mem); (case hi => exact ints_put (by lia) (by lia) hi xa); (case hd => exact dvs_put (by lia) (by lia) hd xb); (case nd => simp only [List.nodup_cons, List.mem_cons, List.not_mem_nil, or_false, not_or, List.nodup_nil, and_true, not_false_eq_true]; lia))
    | exact put_e1 (by assumption) (by assumption) hvz hdb
    | exact put_e2 (by assumption) (by assumption) hvz (by assumption)
    | exact put_e3 (by assumption) (by assumption) ya yb (by assumption) hY yl1 yl2 (by assumption) (by assumption)
    | exact put_e4 (by assumption) (by assumption) ya yb hY yl1 yl2 (by assumption) (by assumption)
/-- a class called, the ledger's addresses all apart ahead and behind -/
theorem Cls.useN {w : World} {C fI : Addr} {d : Nat} {args : List Value} {P : Heap → Prop} {R : Value → List (Addr × Obj) → Addr → Addr → Prop}
    {mean : ExcName → Option Value} {mg mb : Str → Option Value} {dp un : Nat} {gd : Option (List Code)} {cn : Str} {cs : Scope} {a : Addr} {ccd : Value} {cl : List (Str × Addr)} {outer : List Env} {A₀ : Around} {base h₀ : Heap} {L : Addr} {m : Str → Option Value} {s : Shared} {Q E : Value → Shared → Prop} {news : List (Addr × Obj)}
    (I : ∀ x dx, @Ne Nat x dx → CtrM w fI d (.ref x :: args) [(x, instObj C dx), (dx, dictOf [] 0)] P (fun v mu => v = .none ∧ R v mu x dx))
    (hm : makesIn (hd.heap_1 w.params) C = true) (hi : findIn (hd.heap_1 w.params) (.ref C) "__init__" = some (some (.ref fI))) (hf : isFn (hd.heap_1 w.params) (.ref fI) = true) (hR : ∀ mu x dx, R .none mu x dx → (mu.map (·.1)).Nodup)
    (B : Below A₀ base outer h₀) (F : Fr h₀ L s.heap m) (X : (hd.heap_1 w.params).In h₀) (N : News h₀ L s.heap news) (nd : (news.map (·.1)).Nodup) (T : Top view lv mean mg mb h₀) (hk : cs.kind = .function) (hP : P h₀) (hd : dp + d + 2 < recursionLimit) (hu : un + 8 * d + 8 < cLine)
    (ret : ∀ x dx h' tk' mu', Fr h₀ L h' m → News h₀ L h' (mu' ++ news) → ((mu' ++ news).map (·.1)).Nodup → R .none mu' x dx → Q (.ref x) { s with heap := h', toks := tk' }) :
    wpAny (model PySem.Challenge.rw_pq1305_01.row.prog w) (ktrTop dp un gd cn cs L a ccd cl outer) (call (.ref C) args) Q E s := by
  refine call_cls F X N hm hi hf fun x dx h' F' N' hlt hxd => ?_
  have hne : @Ne Nat x dx := Nat.ne_of_gt hxd
  have e : (ktrTop dp un gd cn cs L a ccd cl outer).under (.builtin "type.__call__" ⟨.ref C :: args, []⟩) = ktrTop ((ktrTop dp un gd cn cs L a ccd cl outer).under (.builtin "type.__call__" ⟨.ref C :: args, []⟩)).depth ((ktrTop dp un gd cn cs L a ccd cl outer).under (.builtin "type.__call__" ⟨.ref C :: args, []⟩)).units gd cn cs L a ccd cl outer := rfl
  rw [e]
  refine I x dx hne mean mg mb _ _ gd cn cs a ccd cl outer A₀ base h₀ L m _ _ B F' X (fun p hp => N' p ?_) T hk ?_ ?_ hP ?_
  · rcases List.mem_cons.mp hp with rfl | hp
    · exact List.mem_cons_self
    · rcases List.mem_cons.mp hp with rfl | hp
      · exact List.mem_cons_of_mem _ List.mem_cons_self
      · cases hp
  · rw [depth_under_make]; show dp + 1 + d < recursionLimit; lia
  · rw [units_under_make]; show un + 1 + 8 * d < cLine; lia
  · intro r h₂ tk₂ mu' st F₂ N₂ fr hr
    obtain ⟨rfl, hr⟩ := hr
    have off : ∀ q ∈ news, q.1 ∉ [(x, instObj C dx), (dx, dictOf [] 0)].map (·.1) := fun q hq hm => by
      have h1 := hlt q hq
      rcases List.mem_cons.mp hm with z | hm
      · exact absurd (Nat.lt_trans h1 hxd) (by rw [z]; exact Nat.lt_irrefl _)
      · have z := List.mem_singleton.mp hm
        exact absurd h1 (by rw [z]; exact Nat.lt_irrefl _)
    have apart : ∀ p ∈ mu', ∀ q ∈ news, p.1 ≠ q.1 := fun p hp q hq z => by
      rcases fr p hp with h | h
      · exact off q hq (z ▸ h)
      · have w1 := (N' q (List.mem_cons_of_mem _ (List.mem_cons_of_mem _ hq))).1
        have h' := h
        rw [z] at h'
        exact absurd (w1.symm.trans h') (by simp)
    refine ⟨rfl, ret x dx h₂ tk₂ mu' F₂ (fun p hp => ?_) ?_ hr⟩
    · rcases List.mem_append.mp hp with hp | hp
      · exact N₂ p hp
      · have z := N' p (List.mem_cons_of_mem _ (List.mem_cons_of_mem _ hp))
        exact ⟨st _ _ z.1 (off p hp), z.2⟩
    · rw [List.map_append]
      refine List.nodup_append.mpr ⟨hR _ _ _ hr, nd, fun u hu v hv z => ?_⟩
      obtain ⟨p, hp, rfl⟩ := List.mem_map.mp hu
      obtain ⟨q, hq, rfl⟩ := List.mem_map.mp hv
      exact apart p hp q hq z
theorem nd_ne {l1 l2 : List (Addr × Obj)} (nd : ((l1 ++ l2).map (·.1)).Nodup) {a b : Addr} {o1 o2 : Obj} (h1 : (a, o1) ∈ l1) (h2 : (b, o2) ∈ l2) : @Ne Nat a b := by
  rw [List.map_append] at nd
  exact (List.nodup_append.mp nd).2.2 a (List.mem_map_of_mem (f := (·.1)) h1) b (List.mem_map_of_mem (f := (·.1)) h2)
/-- the database's own objects -/
def daL (d dd df mp : Addr) (q : Nat → Int) (u : Nat → Tok) (pp ww : Value) (odf omp : Obj) : List (Addr × Obj) :=
  [(mp, omp), (d, ⟨.ref 286, some dd, .plain, #[]⟩), (dd, dictOf [⟨q 0, .str (Str.ofString "defaults") (u 0), .ref df⟩, ⟨q 1, .str (Str.ofString "maps") (u 1), .ref mp⟩, ⟨q 2, .str (Str.ofString "properties") (u 2), pp⟩, ⟨q 3, .str (Str.ofString "words") (u 3), ww⟩] 4), (df, odf)]
theorem rm_apart {x dx sa va mp d dd df : Addr} {q q1 : Nat → Int} {u u1 : Nat → Tok} {n1 n2 : Nat} {dft pp ww : Value} {vs ws : List Value} {odf omp : Obj} (nd : ((rmL x dx sa va q u n1 n2 dft vs ws ++ daL d dd df mp q1 u1 pp ww odf omp).map (·.1)).Nodup) : @Ne Nat x mp ∧ @Ne Nat dx mp ∧ @Ne Nat sa mp ∧ @Ne Nat va mp := by
  have hm : (mp, omp) ∈ daL d dd df mp q1 u1 pp ww odf omp := by unfold daL; exact List.mem_cons_self
  refine ⟨nd_ne nd (by unfold rmL; exact List.mem_cons_self) hm, nd_ne nd (by unfold rmL; exact List.mem_cons_of_mem _ List.mem_cons_self) hm, nd_ne nd (by unfold rmL; exact List.mem_cons_of_mem _ (List.mem_cons_of_mem _ List.mem_cons_self)) hm, nd_ne nd (by unfold rmL; exact List.mem_cons_of_mem _ (List.mem_cons_of_mem _ (List.mem_cons_of_mem _ List.mem_cons_self))) hm⟩
theorem valueAt_self (kvs : List (Str × Value)) (k : Str) (v : Value) : valueAt (stored kvs k v) k = some v := by
  unfold stored
  split
  · rename_i h
    unfold valueAt
    induction kvs with
    | nil => simp at h
    | cons p r ih =>
      by_cases e : p.1 = k
      · simp [e]
      · have h' : (r.any fun kv => decide (kv.1 = k)) = true := by simpa [e] using h
        have := ih h'
        simpa [List.find?_cons, e] using this
  · rename_i h
    unfold valueAt
    have h2 : ∀ x, (k, x) ∉ kvs := by simpa using h
    have h' : ∀ p ∈ kvs, ¬ p.1 = k := fun p hp e => h2 p.2 (by rw [← e]; exact hp)
    rw [List.find?_append, List.find?_eq_none.mpr (fun p hp => by simpa using h' p hp)]
    simp
theorem none_is {kvs : List (Str × Value)} {k : Str} (h : valueAt kvs k = none) : (valueAt kvs k).isSome = false := by rw [h]; rfl
theorem item_any {prog : Program} {w : World} {A : Around} {E : Value → Shared → Prop} {s : Shared} {h₀ : Heap} {L d : Addr} {news : List (Addr × Obj)} {o : Obj} {kvs : List (Str × Value)} {k : Str} {tk : Tok} {v : Value} {value slice : PySem.Expr} {Q : Value → Shared → Prop} (N : News h₀ L s.heap news) (hp : (d, o) ∈ news) (hd : o.IsDictOf (PySem.strKind prog w) kvs) (hl : valueAt kvs k = some v) (h : Q v { s with toks := s.toks + 1 })
    (hs : subscripted slice false (.ref d) (.str k tk) = operate [.ref d, .str k tk] (getItem (.ref d) (.str k tk)) := by with_unfolding_all rfl) :
    wpAny (model prog w) A (subscriptTail value slice (.ref d) (.str k tk)) Q E s :=
  have hD := kda_dict N hp hd
  tail_any hD.typeIs slot_dict_getitem.lookup (wpAny_getItem_of (strKind_is _ _ _ _) hD.mapOf hl h) hs
local macro_rules | `(tactic| k_ne) => `(tactic| (refine neN ?_; (try dsimp only); first | assumption | exact Ne.symm (by assumption)))
local macro_rules | `(tactic| walk_at "call builtin:dict.get") => `(tactic| k_extra "@call builtin:dict.get")
local macro_rules | `(tactic| walk_at "setItem ref str") => `(tactic| k_extra "@setItem ref str")
def MapNew (w : World) (d dd df mp : Addr) (q : Nat → Int) (u : Nat → Tok) (pp ww : Value) (odf : Obj) (kvs : List (Str × Value)) (nm : Str) (dft : Value) (v : Value) (mu : List (Addr × Obj)) : Prop :=
  ∃ x dx sa va q' u' n1 n2 t' omp', v = .ref x ∧ mu = rmL x dx sa va q' u' n1 n2 dft [.int 0 t'] [dft] ++ daL d dd df mp q u pp ww odf omp' ∧ omp'.IsDictOf (PySem.strKind PySem.Challenge.rw_pq1305_01.row.prog w) (stored kvs nm (.ref x)) ∧ ((rmL x dx sa va q' u' n1 n2 dft [.int 0 t'] [dft] ++ daL d dd df mp q u pp ww odf omp').map (·.1)).Nodup
theorem c_mapnew : ∀ (w : World) (d : Addr) (dd : Addr) (df : Addr) (mp : Addr) (q : Nat → Int) (u : Nat → Tok) (pp : Value) (ww : Value) (odf : Obj) (omp : Obj) (kvd : List (Str × Value)) (kvs : List (Str × Value)) (nm : Str) (t : Tok) (dft : Value), (odf.IsDictOf (PySem.strKind PySem.Challenge.rw_pq1305_01.row.prog w) kvd) → (omp.IsDictOf (PySem.strKind PySem.Challenge.rw_pq1305_01.row.prog w) kvs) → (valueAt kvd nm = some dft) → (valueAt kvs nm = none) → ((df == sysModules) = false) → ((mp == sysModules) = false) → (kvs.length ≤ 5) → (((daL d dd df mp q u pp ww odf omp).map (·.1)).Nodup) → CtrM w 283 6 [.ref d, .str nm t] (daL d dd df mp q u pp ww odf omp) (fun _ => True) (MapNew w d dd df mp q u pp ww odf kvs nm dft) := by
  intro w d dd df mp q u pp ww odf omp kvd kvs nm t dft hd1 hd2 hv hn lo1 lo2 hsz nd
  k_dflt (refine' CtrM.bodyX Mono.top (binds := [(Str.ofString "self", .ref d), (Str.ofString "name", .str nm t)]) ?ho ?hcd ?hbind ?hloc ?h ?hcell ?hd1 ?hco ?hgen ?hk; (case ho => k_is); (case hcd => k_is); (case hbind => first | exact fun _ _ => BindsTo.of_eq rfl | exact fun _ X' => binds_K X' rfl (by k_is) rfl rfl rfl); (case hloc => exact locs rfl); (case hcell => decide); (case hd1 => decide); (case hco => exact rfl); (case hgen => exact rfl); (case hk => exact rfl))
  intro kx
  revert hd1 hd2 hv hn lo1 lo2 hsz nd
  revert w d dd df mp q u pp ww odf omp kvd kvs nm t dft kx
  refine seal8 (dW, default, default, default, default, default, default, default) ?_
  generalize sl8_0 _ _ = w, sl8_1 _ _ = d, sl8_2 _ _ = dd, sl8_3 _ _ = df, sl8_4 _ _ = mp, sl8_5 _ _ = q, sl8_6 _ _ = u, sl8_7 _ _ = pp
  refine seal8 (default, default, default, default, default, default, default, default) ?_
  generalize sl8_0 _ _ = ww, sl8_1 _ _ = odf, sl8_2 _ _ = omp, sl8_3 _ _ = kvd, sl8_4 _ _ = kvs, sl8_5 _ _ = nm, sl8_6 _ _ = t, sl8_7 _ _ = dft
  refine seal1 (dCx) ?_
  generalize eps _ _ = kx
  intro hd1 hd2 hv hn lo1 lo2 hsz nd
  w_top off
  intro B F N X T hdp hun hP
  have _ : Dm := Dm.mk
  have _ : Rim := Rim.mk
  k_with_none
  k_with "@compareOp NotIn str ref" => ((k_here; (with_reducible show wpAny _ _ (compareOp CmpOp.NotIn (Value.str _ _) (Value.ref _)) _ _ _); k_dflt (first
      | refine kdg_notin (knd := PySem.strKind _ _) (by k_asm) (by k_mem) (by assumption) (by assumption) (strKind_is _ _ _ _) false (none_is (by assumption)) ?_
      | refine kdg_notin (knd := PySem.strKind _ _) (by k_asm) (by k_mem) (by assumption) (by assumption) (strKind_is _ _ _ _) true (some_is (by assumption)) ?_); (try dsimp only [Bool.not_true, Bool.not_false])))
  k_with "@call builtin:dict.get" => ((k_here; (with_reducible show wpAny _ _ (call (Value.builtin "dict.get") [Value.ref _, Value.str _ _]) _ _ _); k_dflt (refine kdg_get1 (knd := PySem.strKind _ _) (by k_asm) (by k_mem) (by assumption) (by assumption) (strKind_is _ _ _ _) (some _) (by assumption) ?_); (try dsimp only [Option.getD])))
  k_with "@setItem ref str" => ((k_here; (with_reducible show wpAny _ _ (setItem (Value.ref _) (Value.str _ _) (Value.ref _)) _ _ _); k_dflt (refine' kda_set (knd := PySem.strKind _ _) ?F_q9 ?N_q9 ?U_q9 ?d_q9 (strKind_is _ _ _ _) ?z_q9 ?_; (case F_q9 => k_asm); (case N_q9 => k_asm); (case U_q9 => k_updF); (case d_q9 => assumption); (case z_q9 => rw [sizeLine_eq]; lia)); intro h' o' F' N' hd9; (try dsimp only at N')); (all_goals (try ((with_reducible show wpAny _ _ _ _ _ _); (try revert h'); (try revert o'); (try revert F'); (try revert N'); (try revert hd9); intros))))
  k_with "@subscriptTail" => ((k_here; (with_reducible show wpAny _ _ (subscriptTail _ _ (Value.ref _) (Value.str _ _)) _ _ _); k_extra "item"))
  k_with "@call ref" => ((k_here; (with_reducible show wpAny _ _ (call (Value.ref 237) _) _ _ _); k_extra "rm"))
  k_with "k0" => (k_here; (with_reducible show wpAny _ _ (callWith _ (Value.ref _) _ (backTo _ (starEach [] _)) []) _ _ _); k_dflt (refine' callWith_K0 ?k1_q9 ?k2_q9 ?_; (case k1_q9 => first | with_reducible assumption | exact Frag.In.keeps (by with_reducible assumption) (Fr.keep (by with_reducible assumption))); (case k2_q9 => k_is); k_whole))
  k_with "fold" => (k_fold; (with_reducible rename Dm => d9); revert d9; revert ek; revert qk; intro qk ek _)
  k_with "seal0" =>
    (with_reducible show wpAny _ _ (execs (_ :: _) _) _ _ _)
    (try k_extra "preseal")
    (fail_if_success (have y9 := ‹_›; (with_reducible have y8 : Rim := y9)))
    (repeat ((fail_if_success (have y9 := ‹_›; (with_reducible have y8 : Rim := y9))); first | ((fail_if_success (have y9 := ‹_›; have y8 : (_ : Prop) := y9)); clear (‹_›)) | revert (‹_›)))
    (repeat (first
      | ((with_reducible refine seal2 dHT ?_); (generalize sl2_0 _ _ = z8, sl2_1 _ _ = z7))
      | ((with_reducible refine seal1 dHp ?_); (generalize eps _ _ = z8))
      | ((with_reducible refine seal1 (0 : Nat) ?_); (generalize eps _ _ = z8))
      | ((with_reducible refine seal1 default ?_); (generalize eps _ _ = z8))
      | (with_reducible intro _)))
    ((with_reducible rename Rim => m9); revert m9; intro _)

  simp only [daL] at N
  k_with "rm" =>
    k_dflt (refine' Cls.useN (fun x9 dx9 hne9 => c_rinit w dft x9 dx9 hne9) ?km ?ki ?kf ?hR ?k1 ?k2 ?k3 ?k4 ?nd ?k5 ?k6 ?k7 ?k8 ?k9 ?_; (case km => k_is); (case ki => k_is); (case kf => k_is); (case hR => (rintro mu x dx ⟨sa, va, q, u, n1, n2, t, rfl, hnd⟩; exact hnd)); (case k1 => k_asm); (case k2 => k_asm); (case k3 => k_asm); (case k4 => k_asm); (case nd => exact nd); (case k5 => k_asm); (case k6 => first | exact rfl | assumption); (case k7 => trivial); (case k8 => ktr_room); (case k9 => ktr_units))
    intro x dx h9 tk9 mu9 F9 N9 nd9 hr9
    obtain ⟨sa, va, q', u', n1, n2, t', he9, hnd9⟩ := hr9
    subst he9
    obtain ⟨e1, e2, e3, e4⟩ := rm_apart nd9
    simp only [rmL, daL, List.cons_append, List.nil_append] at N9
  k_with "item" =>
    k_dflt (refine item_any (by k_asm) (by k_mem) (by assumption) (valueAt_self _ _ _) ?_)
  have nd' : @Ne Nat d mp ∧ @Ne Nat dd mp ∧ @Ne Nat df mp := by
    simp only [daL, List.map_cons, List.map_nil, List.nodup_cons, List.mem_cons, List.not_mem_nil, or_false, not_or] at nd
    exact ⟨fun e => nd.1.1 e.symm, fun e => nd.1.2.1 e.symm, fun e => nd.1.2.2 e.symm⟩
  obtain ⟨nd1, nd2, nd3⟩ := nd'
  ((try ((with_reducible rename Rim => m9); revert m9; intro _)); k_steps)
  all_goals (try dsimp only)
  refine' DoneM.mk (mu' := rmL x dx sa va q' u' n1 n2 dft [.int 0 t'] [dft] ++ daL d dd df mp q u pp ww odf _) (by assumption) (by assumption) (fun p hp => hp) ?r
  exact ⟨x, dx, sa, va, q', u', n1, n2, t', _, rfl, rfl, by assumption, nd9⟩
theorem c_mapold : ∀ (w : World) (d : Addr) (dd : Addr) (df : Addr) (mp : Addr) (q : Nat → Int) (u : Nat → Tok) (pp : Value) (ww : Value) (odf : Obj) (omp : Obj) (kvs : List (Str × Value)) (nm : Str) (t : Tok) (x : Value), (omp.IsDictOf (PySem.strKind PySem.Challenge.rw_pq1305_01.row.prog w) kvs) → (valueAt kvs nm = some x) → ((mp == sysModules) = false) → CtrM w 283 6 [.ref d, .str nm t] (daL d dd df mp q u pp ww odf omp) (fun _ => True) (fun v mu => v = x ∧ mu = daL d dd df mp q u pp ww odf omp) := by
  intro w d dd df mp q u pp ww odf omp kvs nm t x hd2 hn lo2
  k_dflt (refine' CtrM.bodyX Mono.top (binds := [(Str.ofString "self", .ref d), (Str.ofString "name", .str nm t)]) ?ho ?hcd ?hbind ?hloc ?h ?hcell ?hd1 ?hco ?hgen ?hk; (case ho => k_is); (case hcd => k_is); (case hbind => first | exact fun _ _ => BindsTo.of_eq rfl | exact fun _ X' => binds_K X' rfl (by k_is) rfl rfl rfl); (case hloc => exact locs rfl); (case hcell => decide); (case hd1 => decide); (case hco => exact rfl); (case hgen => exact rfl); (case hk => exact rfl))
  intro kx
  revert hd2 hn lo2
  revert w d dd df mp q u pp ww odf omp kvs nm t x kx
  refine seal8 (dW, default, default, default, default, default, default, default) ?_
  generalize sl8_0 _ _ = w, sl8_1 _ _ = d, sl8_2 _ _ = dd, sl8_3 _ _ = df, sl8_4 _ _ = mp, sl8_5 _ _ = q, sl8_6 _ _ = u, sl8_7 _ _ = pp
  refine seal8 (default, default, default, default, default, default, default, dCx) ?_
  generalize sl8_0 _ _ = ww, sl8_1 _ _ = odf, sl8_2 _ _ = omp, sl8_3 _ _ = kvs, sl8_4 _ _ = nm, sl8_5 _ _ = t, sl8_6 _ _ = x, sl8_7 _ _ = kx
  intro hd2 hn lo2
  intro B F N X T hdp hun hP
  have _ : Dm := Dm.mk
  have _ : Rim := Rim.mk
  k_with_none
  k_with "@compareOp NotIn str ref" => ((k_here; (with_reducible show wpAny _ _ (compareOp CmpOp.NotIn (Value.str _ _) (Value.ref _)) _ _ _); k_dflt (first
      | refine kdg_notin (knd := PySem.strKind _ _) (by k_asm) (by k_mem) (by assumption) (by assumption) (strKind_is _ _ _ _) false (none_is (by assumption)) ?_
      | refine kdg_notin (knd := PySem.strKind _ _) (by k_asm) (by k_mem) (by assumption) (by assumption) (strKind_is _ _ _ _) true (some_is (by assumption)) ?_); (try dsimp only [Bool.not_true, Bool.not_false])))
  k_with "@subscriptTail" => ((k_here; (with_reducible show wpAny _ _ (subscriptTail _ _ (Value.ref _) (Value.str _ _)) _ _ _); k_extra "item"))
  k_with "k0" => (k_here; (with_reducible show wpAny _ _ (callWith _ (Value.ref _) _ (backTo _ (starEach [] _)) []) _ _ _); k_dflt (refine' callWith_K0 ?k1_q9 ?k2_q9 ?_; (case k1_q9 => first | with_reducible assumption | exact Frag.In.keeps (by with_reducible assumption) (Fr.keep (by with_reducible assumption))); (case k2_q9 => k_is); k_whole))
  k_with "fold" => (k_fold; (with_reducible rename Dm => d9); revert d9; revert ek; revert qk; intro qk ek _)
  k_with "seal0" =>
    (with_reducible show wpAny _ _ (execs (_ :: _) _) _ _ _)
    (try k_extra "preseal")
    (fail_if_success (have y9 := ‹_›; (with_reducible have y8 : Rim := y9)))
    (repeat ((fail_if_success (have y9 := ‹_›; (with_reducible have y8 : Rim := y9))); first | ((fail_if_success (have y9 := ‹_›; have y8 : (_ : Prop) := y9)); clear (‹_›)) | revert (‹_›)))
    (repeat (first
      | ((with_reducible refine seal2 dHT ?_); (generalize sl2_0 _ _ = z8, sl2_1 _ _ = z7))
      | ((with_reducible refine seal1 dHp ?_); (generalize eps _ _ = z8))
      | ((with_reducible refine seal1 (0 : Nat) ?_); (generalize eps _ _ = z8))
      | ((with_reducible refine seal1 default ?_); (generalize eps _ _ = z8))
      | (with_reducible intro _)))
    ((with_reducible rename Rim => m9); revert m9; intro _)

  simp only [daL] at N
  k_with "item" =>
    k_dflt (refine item_any (by k_asm) (by k_mem) (by assumption) (by assumption) ?_)
  ((try ((with_reducible rename Rim => m9); revert m9; intro _)); k_steps)
  all_goals (try dsimp only)
  refine' DoneM.mk (mu' := daL d dd df mp q u pp ww odf omp) (by assumption) (by assumption) (fun p hp => hp) ?r
  exact ⟨rfl, rfl⟩
theorem RputR.nd {x dx : Addr} {q : Nat → Int} {u : Nat → Tok} {dft : Value} {st : List Int} {dv : List Dv} {c : Int} {z : Dv} : ∀ r mu, RputR x dx q u dft st dv c z r mu → (mu.map (·.1)).Nodup := by
  rintro r mu ⟨-, sa, va, n1, n2, vs, ws, st', dv', rfl, nd, -⟩
  exact nd
theorem rm_nd {x dx sa va : Addr} {q : Nat → Int} {u : Nat → Tok} {n1 n2 : Nat} {dft : Value} {vs ws : List Value} {rest : List (Addr × Obj)} (nd : ((rmL x dx sa va q u n1 n2 dft vs ws ++ rest).map (·.1)).Nodup) : ([x, dx, sa, va] : List Nat).Nodup := by
  rw [List.map_append] at nd
  exact (List.nodup_append.mp nd).1
def DputR (x dx d dd df mp : Addr) (q' : Nat → Int) (u' : Nat → Tok) (q : Nat → Int) (u : Nat → Tok) (pp ww dft : Value) (odf omp : Obj) (st : List Int) (dv : List Dv) (c : Int) (z : Dv) (v : Value) (mu : List (Addr × Obj)) : Prop :=
  v = .none ∧ ∃ sa va n1 n2 vs ws st' dv', mu = rmL x dx sa va q' u' n1 n2 dft vs ws ++ daL d dd df mp q u pp ww odf omp ∧ ((rmL x dx sa va q' u' n1 n2 dft vs ws ++ daL d dd df mp q u pp ww odf omp).map (·.1)).Nodup ∧ IntsAre vs st' ∧ DvsAre ws dv' ∧ RmPut st dv c z st' dv'
theorem c_dput : ∀ (w : World) (d : Addr) (dd : Addr) (df : Addr) (mp : Addr) (q : Nat → Int) (u : Nat → Tok) (pp : Value) (ww : Value) (odf : Obj) (omp : Obj) (kvs : List (Str × Value)) (nm : Str) (t : Tok) (x : Addr) (dx : Addr) (sa : Addr) (va : Addr) (q' : Nat → Int) (u' : Nat → Tok) (n1 : Nat) (n2 : Nat) (dft : Value) (vs : List Value) (ws : List Value) (st : List Int) (dv : List Dv) (c : Int) (t1 : Tok) (t2 : Tok) (v : Value) (z : Dv), (omp.IsDictOf (PySem.strKind PySem.Challenge.rw_pq1305_01.row.prog w) kvs) → (valueAt kvs nm = some (.ref x)) → ((mp == sysModules) = false) → (IsDv v z) → (8704 ≤ c) → (c < 8720) → (IntsAre vs st) → (DvsAre ws dv) → (st.Pairwise (· < ·)) → (st.length < 900) → (st.length = dv.length) → (0 < cnt st 0) → (∀ d ∈ dv, Same d z) → (((rmL x dx sa va q' u' n1 n2 dft vs ws ++ daL d dd df mp q u pp ww odf omp).map (·.1)).Nodup) → CtrM w 269 16 [.ref d, .str nm t, .int c t1, .int c t2, v] (rmL x dx sa va q' u' n1 n2 dft vs ws ++ daL d dd df mp q u pp ww odf omp) (fun _ => True) (DputR x dx d dd df mp q' u' q u pp ww dft odf omp st dv c z) := by
  intro w d dd df mp q u pp ww odf omp kvs nm t x dx sa va q' u' n1 n2 dft vs ws st dv c t1 t2 v z hd2 hn lo2 hvz hc hc' hi hd hs hl hld hz hK nd
  k_dflt (refine' CtrM.bodyX Mono.top (binds := [(Str.ofString "self", .ref d), (Str.ofString "name", .str nm t), (Str.ofString "first", .int c t1), (Str.ofString "last", .int c t2), (Str.ofString "value", v)]) ?ho ?hcd ?hbind ?hloc ?h ?hcell ?hd1 ?hco ?hgen ?hk; (case ho => k_is); (case hcd => k_is); (case hbind => first | exact fun _ _ => BindsTo.of_eq rfl | exact fun _ X' => binds_K X' rfl (by k_is) rfl rfl rfl); (case hloc => exact locs rfl); (case hcell => decide); (case hd1 => decide); (case hco => exact rfl); (case hgen => exact rfl); (case hk => exact rfl))
  intro kx
  revert hd2 hn lo2 hvz hc hc' hi hd hs hl hld hz hK nd
  revert w d dd df mp q u pp ww odf omp kvs nm t x dx sa va q' u' n1 n2 dft vs ws st dv c t1 t2 v z kx
  refine seal8 (dW, default, default, default, default, default, default, default) ?_
  generalize sl8_0 _ _ = w, sl8_1 _ _ = d, sl8_2 _ _ = dd, sl8_3 _ _ = df, sl8_4 _ _ = mp, sl8_5 _ _ = q, sl8_6 _ _ = u, sl8_7 _ _ = pp
  refine seal8 (default, default, default, default, default, default, default, default) ?_
  generalize sl8_0 _ _ = ww, sl8_1 _ _ = odf, sl8_2 _ _ = omp, sl8_3 _ _ = kvs, sl8_4 _ _ = nm, sl8_5 _ _ = t, sl8_6 _ _ = x, sl8_7 _ _ = dx
  refine seal8 (default, default, default, default, default, default, default, default) ?_
  generalize sl8_0 _ _ = sa, sl8_1 _ _ = va, sl8_2 _ _ = q', sl8_3 _ _ = u', sl8_4 _ _ = n1, sl8_5 _ _ = n2, sl8_6 _ _ = dft, sl8_7 _ _ = vs
  refine seal8 (default, default, default, default, default, default, default, (.b false)) ?_
  generalize sl8_0 _ _ = ws, sl8_1 _ _ = st, sl8_2 _ _ = dv, sl8_3 _ _ = c, sl8_4 _ _ = t1, sl8_5 _ _ = t2, sl8_6 _ _ = v, sl8_7 _ _ = z
  refine seal1 (dCx) ?_
  generalize eps _ _ = kx
  intro hd2 hn lo2 hvz hc hc' hi hd hs hl hld hz hK nd
  w_top off
  intro B F N X T hdp hun hP
  have _ : Dm := Dm.mk
  have _ : Rim := Rim.mk
  k_with_none
  k_with "@call ref" => ((k_here; (with_reducible show wpAny _ _ (call (Value.ref 283) _) _ _ _); k_extra "mapof"))
  k_with "@call ref" => ((k_here; (with_reducible show wpAny _ _ (call (Value.ref 220) _) _ _ _); k_extra "rput"))
  k_with "k0" => (k_here; (with_reducible show wpAny _ _ (callWith _ (Value.ref _) _ (backTo _ (starEach [] _)) []) _ _ _); k_dflt (refine' callWith_K0 ?k1_q9 ?k2_q9 ?_; (case k1_q9 => first | with_reducible assumption | exact Frag.In.keeps (by with_reducible assumption) (Fr.keep (by with_reducible assumption))); (case k2_q9 => k_is); k_whole))
  k_with "fold" => (k_fold; (with_reducible rename Dm => d9); revert d9; revert ek; revert qk; intro qk ek _)
  k_with "seal0" =>
    (with_reducible show wpAny _ _ (execs (_ :: _) _) _ _ _)
    (try k_extra "preseal")
    (fail_if_success (have y9 := ‹_›; (with_reducible have y8 : Rim := y9)))
    (repeat ((fail_if_success (have y9 := ‹_›; (with_reducible have y8 : Rim := y9))); first | ((fail_if_success (have y9 := ‹_›; have y8 : (_ : Prop) := y9)); clear (‹_›)) | revert (‹_›)))
    (repeat (first
      | ((with_reducible refine seal2 dHT ?_); (generalize sl2_0 _ _ = z8, sl2_1 _ _ = z7))
      | ((with_reducible refine seal1 dHp ?_); (generalize eps _ _ = z8))
      | ((with_reducible refine seal1 (0 : Nat) ?_); (generalize eps _ _ = z8))
      | ((with_reducible refine seal1 default ?_); (generalize eps _ _ = z8))
      | (with_reducible intro _)))
    ((with_reducible rename Rim => m9); revert m9; intro _)

  have hnd := rm_nd nd
  have N0 := N
  k_with "mapof" =>
    k_dflt (refine' CtrM.useN (c_mapold w d dd df mp q u pp ww odf omp kvs nm t (.ref x) hd2 hn lo2) (rmL x dx sa va q' u' n1 n2 dft vs ws) [] ?k1 ?k2 ?k3 ?k4 ?nd ?k5 ?k6 ?k7 ?k8 ?k9 ?hR ?_; (case k1 => k_asm); (case k2 => k_asm); (case k3 => k_asm); (case k4 => exact N0); (case nd => exact nd); (case k5 => k_asm); (case k6 => first | exact rfl | assumption); (case k7 => trivial); (case k8 => ktr_room); (case k9 => ktr_units); (case hR => (rintro r mu ⟨rfl, rfl⟩; rw [List.map_append] at nd; exact (List.nodup_append.mp nd).2.1)))
    intro r9 h9 tk9 mu9 F9 N9 nd9 hr9
    obtain ⟨e8, e9⟩ := hr9
    subst e8
    subst e9
    have N8 := N9
    simp only [rmL, daL, List.cons_append, List.nil_append] at N9
  k_with "rput" =>
    k_dflt (refine' CtrM.useN (c_rput w x dx sa va q' u' n1 n2 dft vs ws st dv c t1 t2 v z hvz hc hc' hi hd hs hl hld hz hK hnd) [] (daL d dd df mp q u pp ww odf omp) ?k1 ?k2 ?k3 ?k4 ?nd ?k5 ?k6 ?k7 ?k8 ?k9 ?hR ?_; (case k1 => k_asm); (case k2 => k_asm); (case k3 => k_asm); (case k4 => (with_unfolding_all k_asm)); (case nd => exact nd); (case k5 => k_asm); (case k6 => first | exact rfl | assumption); (case k7 => trivial); (case k8 => ktr_room); (case k9 => ktr_units); (case hR => exact RputR.nd))
    intro r9 h9 tk9 mu9 F9 N9 nd9 hr9
    unfold RputR at hr9
    obtain ⟨e8, sa9, va9, m1, m2, vs9, ws9, st9, dv9, e9, nd8, hi9, hd9, hp9⟩ := hr9
    subst e8
    subst e9
  simp only [rmL, daL, List.cons_append, List.nil_append] at N
  ((try ((with_reducible rename Rim => m9); revert m9; intro _)); k_steps)
  all_goals (try dsimp only)
  refine' DoneM.mk (mu' := rmL x dx sa9 va9 q' u' m1 m2 dft vs9 ws9 ++ daL d dd df mp q u pp ww odf omp) (by assumption) (by assumption) (fun p hp => hp) ?r
  exact ⟨rfl, sa9, va9, m1, m2, vs9, ws9, st9, dv9, rfl, by simpa using nd9, hi9, hd9, hp9⟩
def DputN (w : World) (d dd df mp : Addr) (q : Nat → Int) (u : Nat → Tok) (pp ww dft : Value) (odf : Obj) (kvs : List (Str × Value)) (nm : Str) (zd : Dv) (c : Int) (z : Dv) (v : Value) (mu : List (Addr × Obj)) : Prop :=
  v = .none ∧ ∃ x dx sa va q' u' n1 n2 vs ws st' dv' omp, mu = rmL x dx sa va q' u' n1 n2 dft vs ws ++ daL d dd df mp q u pp ww odf omp ∧ omp.IsDictOf (PySem.strKind PySem.Challenge.rw_pq1305_01.row.prog w) (stored kvs nm (.ref x)) ∧ ((rmL x dx sa va q' u' n1 n2 dft vs ws ++ daL d dd df mp q u pp ww odf omp).map (·.1)).Nodup ∧ IntsAre vs st' ∧ DvsAre ws dv' ∧ RmPut [0] [zd] c z st' dv'
theorem c_dputnew : ∀ (w : World) (d : Addr) (dd : Addr) (df : Addr) (mp : Addr) (q : Nat → Int) (u : Nat → Tok) (pp : Value) (ww : Value) (odf : Obj) (omp : Obj) (kvd : List (Str × Value)) (kvs : List (Str × Value)) (nm : Str) (t : Tok) (dft : Value) (zd : Dv) (c : Int) (t1 : Tok) (t2 : Tok) (v : Value) (z : Dv), (odf.IsDictOf (PySem.strKind PySem.Challenge.rw_pq1305_01.row.prog w) kvd) → (omp.IsDictOf (PySem.strKind PySem.Challenge.rw_pq1305_01.row.prog w) kvs) → (valueAt kvd nm = some dft) → (valueAt kvs nm = none) → ((df == sysModules) = false) → ((mp == sysModules) = false) → (kvs.length ≤ 5) → (IsDv dft zd) → (IsDv v z) → (Same zd z) → (8704 ≤ c) → (c < 8720) → (((daL d dd df mp q u pp ww odf omp).map (·.1)).Nodup) → CtrM w 269 16 [.ref d, .str nm t, .int c t1, .int c t2, v] (daL d dd df mp q u pp ww odf omp) (fun _ => True) (DputN w d dd df mp q u pp ww dft odf kvs nm zd c z) := by
  intro w d dd df mp q u pp ww odf omp kvd kvs nm t dft zd c t1 t2 v z hd1 hd2 hv hn lo1 lo2 hsz hvd hvz hsame hc hc' nd
  k_dflt (refine' CtrM.bodyX Mono.top (binds := [(Str.ofString "self", .ref d), (Str.ofString "name", .str nm t), (Str.ofString "first", .int c t1), (Str.ofString "last", .int c t2), (Str.ofString "value", v)]) ?ho ?hcd ?hbind ?hloc ?h ?hcell ?hd1 ?hco ?hgen ?hk; (case ho => k_is); (case hcd => k_is); (case hbind => first | exact fun _ _ => BindsTo.of_eq rfl | exact fun _ X' => binds_K X' rfl (by k_is) rfl rfl rfl); (case hloc => exact locs rfl); (case hcell => decide); (case hd1 => decide); (case hco => exact rfl); (case hgen => exact rfl); (case hk => exact rfl))
  intro kx
  revert hd1 hd2 hv hn lo1 lo2 hsz hvd hvz hsame hc hc' nd
  revert w d dd df mp q u pp ww odf omp kvd kvs nm t dft zd c t1 t2 v z kx
  refine seal8 (dW, default, default, default, default, default, default, default) ?_
  generalize sl8_0 _ _ = w, sl8_1 _ _ = d, sl8_2 _ _ = dd, sl8_3 _ _ = df, sl8_4 _ _ = mp, sl8_5 _ _ = q, sl8_6 _ _ = u, sl8_7 _ _ = pp
  refine seal8 (default, default, default, default, default, default, default, default) ?_
  generalize sl8_0 _ _ = ww, sl8_1 _ _ = odf, sl8_2 _ _ = omp, sl8_3 _ _ = kvd, sl8_4 _ _ = kvs, sl8_5 _ _ = nm, sl8_6 _ _ = t, sl8_7 _ _ = dft
  refine seal5 ((.b false), default, default, default, default) ?_
  generalize sl5_0 _ _ = zd, sl5_1 _ _ = c, sl5_2 _ _ = t1, sl5_3 _ _ = t2, sl5_4 _ _ = v
  refine seal2 ((.b false), dCx) ?_
  generalize sl2_0 _ _ = z, sl2_1 _ _ = kx
  intro hd1 hd2 hv hn lo1 lo2 hsz hvd hvz hsame hc hc' nd
  intro B F N X T hdp hun hP
  have _ : Dm := Dm.mk
  have _ : Rim := Rim.mk
  k_with_none
  k_with "@call ref" => ((k_here; (with_reducible show wpAny _ _ (call (Value.ref 283) _) _ _ _); k_extra "mapof"))
  k_with "@call ref" => ((k_here; (with_reducible show wpAny _ _ (call (Value.ref 220) _) _ _ _); k_extra "rput"))
  k_with "k0" => (k_here; (with_reducible show wpAny _ _ (callWith _ (Value.ref _) _ (backTo _ (starEach [] _)) []) _ _ _); k_dflt (refine' callWith_K0 ?k1_q9 ?k2_q9 ?_; (case k1_q9 => first | with_reducible assumption | exact Frag.In.keeps (by with_reducible assumption) (Fr.keep (by with_reducible assumption))); (case k2_q9 => k_is); k_whole))
  k_with "fold" => (k_fold; (with_reducible rename Dm => d9); revert d9; revert ek; revert qk; intro qk ek _)
  k_with "seal0" =>
    (with_reducible show wpAny _ _ (execs (_ :: _) _) _ _ _)
    (try k_extra "preseal")
    (fail_if_success (have y9 := ‹_›; (with_reducible have y8 : Rim := y9)))
    (repeat ((fail_if_success (have y9 := ‹_›; (with_reducible have y8 : Rim := y9))); first | ((fail_if_success (have y9 := ‹_›; have y8 : (_ : Prop) := y9)); clear (‹_›)) | revert (‹_›)))
    (repeat (first
      | ((with_reducible refine seal2 dHT ?_); (generalize sl2_0 _ _ = z8, sl2_1 _ _ = z7))
      | ((with_reducible refine seal1 dHp ?_); (generalize eps _ _ = z8))
      | ((with_reducible refine seal1 (0 : Nat) ?_); (generalize eps _ _ = z8))
      | ((with_reducible refine seal1 default ?_); (generalize eps _ _ = z8))
      | (with_reducible intro _)))
    ((with_reducible rename Rim => m9); revert m9; intro _)

  have N0 : News kx.g kx.L' kx.s.heap ([] ++ (daL d dd df mp q u pp ww odf omp ++ [])) := by rw [List.append_nil]; exact N
  k_with "mapof" =>
    k_dflt (refine' CtrM.useN (c_mapnew w d dd df mp q u pp ww odf omp kvd kvs nm t dft hd1 hd2 hv hn lo1 lo2 hsz nd) [] [] ?k1 ?k2 ?k3 ?k4 ?nd ?k5 ?k6 ?k7 ?k8 ?k9 ?hR ?_; (case k1 => k_asm); (case k2 => k_asm); (case k3 => k_asm); (case k4 => exact N0); (case nd => simpa using nd); (case k5 => k_asm); (case k6 => first | exact rfl | assumption); (case k7 => trivial); (case k8 => ktr_room); (case k9 => ktr_units); (case hR => (rintro r mu ⟨x, dx, sa, va, q', u', n1, n2, t', omp', -, rfl, -, nd'⟩; exact nd')))
    intro r9 h9 tk9 mu9 F9 N9 nd9 hr9
    unfold MapNew at hr9
    obtain ⟨x, dx, sa, va, q', u', n1, n2, t', omp', e8, e9, hdo, ndo⟩ := hr9
    subst e8
    subst e9
    have hnd := rm_nd ndo
    simp only [rmL, daL, List.cons_append, List.nil_append, List.append_nil] at N9
  k_with "rput" =>
    k_dflt (refine' CtrM.useN (c_rput w x dx sa va q' u' n1 n2 dft [.int 0 t'] [dft] [0] [zd] c t1 t2 v z hvz hc hc' (.cons 0 t' .nil) (.cons hvd .nil) (List.pairwise_singleton _ _) (by decide) rfl (by decide) (fun e he => by rw [List.mem_singleton.mp he]; exact hsame) hnd) [] (daL d dd df mp q u pp ww odf omp') ?k1 ?k2 ?k3 ?k4 ?nd ?k5 ?k6 ?k7 ?k8 ?k9 ?hR ?_; (case k1 => k_asm); (case k2 => k_asm); (case k3 => k_asm); (case k4 => (with_unfolding_all k_asm)); (case nd => exact ndo); (case k5 => k_asm); (case k6 => first | exact rfl | assumption); (case k7 => trivial); (case k8 => ktr_room); (case k9 => ktr_units); (case hR => exact RputR.nd))
    intro r9 h9 tk9 mu9 F9 N9 nd9 hr9
    unfold RputR at hr9
    obtain ⟨e8, sa9, va9, m1, m2, vs9, ws9, st9, dv9, e9, nd8, hi9, hd9, hp9⟩ := hr9
    subst e8
    subst e9
  simp only [daL] at N
  ((try ((with_reducible rename Rim => m9); revert m9; intro _)); k_steps)
  all_goals (try dsimp only)
  refine' DoneM.mk (mu' := rmL x dx sa9 va9 q' u' m1 m2 dft vs9 ws9 ++ daL d dd df mp q u pp ww odf omp') (by assumption) (by assumption) (fun p hp => hp) ?r
  exact ⟨rfl, x, dx, sa9, va9, q', u', m1, m2, vs9, ws9, st9, dv9, omp', rfl, hdo, by simpa using nd9, hi9, hd9, hp9⟩
theorem valueAt_other (kvs : List (Str × Value)) {k k' : Str} (v : Value) (e : k ≠ k') : valueAt (stored kvs k v) k' = valueAt kvs k' := by
  unfold stored
  split
  · unfold valueAt
    congr 1
    rename_i h
    clear h
    induction kvs with
    | nil => rfl
    | cons p r ih =>
      rw [List.map_cons, List.find?_cons, List.find?_cons]
      by_cases h1 : p.1 = k'
      · have h2 : ¬ p.1 = k := fun q => e (q.symm.trans h1)
        rw [if_neg h2]
        simp [h1]
      · by_cases h2 : p.1 = k
        · simp only [h2, if_true]
          rw [show decide (k = k') = false by simp [e]]
          exact ih
        · simp only [h2, if_false]
          rw [show decide (p.1 = k') = false by simp [h1]]
          exact ih
  · unfold valueAt
    rw [List.find?_append]
    have : List.find? (fun kv => decide (kv.1 = k')) [(k, v)] = none := by simp [e]
    rw [this, Option.or_none]
def Has (kvs : List (Str × Value)) (k : Str) (d : Dv) (b : Bool) : Prop := b = true → ∃ v, valueAt kvs k = some v ∧ IsDv v d
theorem Has.other {kvs : List (Str × Value)} {k k' : Str} {d : Dv} {b : Bool} {v : Value} (h : Has kvs k' d b) (e : k ≠ k') : Has (stored kvs k v) k' d b := fun q => by
  obtain ⟨x, h1, h2⟩ := h q
  exact ⟨x, by rw [valueAt_other _ _ e]; exact h1, h2⟩
theorem Has.self {kvs : List (Str × Value)} {k : Str} {d : Dv} {b : Bool} {v : Value} (h : IsDv v d) : Has (stored kvs k v) k d b := fun _ => ⟨v, valueAt_self _ _ _, h⟩
/-- the defaults' dict: what is known of it -/
def DefD (w : World) (o : Obj) (n : Nat) (g i e : Bool) : Prop := ∃ kvs : List (Str × Value), o.IsDictOf (PySem.strKind PySem.Challenge.rw_pq1305_01.row.prog w) kvs ∧ kvs.length ≤ n ∧ Has kvs (Str.ofString "gcb") (.s (Str.ofString "Other")) g ∧ Has kvs (Str.ofString "incb") (.s (Str.ofString "None")) i ∧ Has kvs (Str.ofString "ep") (.b false) e
theorem DefD.first (w : World) {o : Obj} {kvs : List (Str × Value)} (h : o.IsDictOf (PySem.strKind PySem.Challenge.rw_pq1305_01.row.prog w) kvs) (hl : kvs.length ≤ 8) (hi : ∃ v, valueAt kvs (Str.ofString "incb") = some v ∧ IsDv v (.s (Str.ofString "None"))) : DefD w o 8 false true false :=
  ⟨kvs, h, hl, (fun q => nomatch q), (fun _ => hi), (fun q => nomatch q)⟩
section
variable {w : World} {A : Around} {E : Value → Shared → Prop} {s : Shared} {h₀ : Heap} {L d : Addr} {m : Str → Option Value} {news : List (Addr × Obj)} {gg : Obj → List (Addr × Obj)} {o : Obj} {n : Nat} {g i e : Bool} {k : Str} {t : Tok} {v : Value} {Q : Unit → Shared → Prop}
theorem def_set {g' i' e' : Bool} (F : Fr h₀ L s.heap m) (N : News h₀ L s.heap news) (U : UpdF d o news gg) (hd : DefD w o n g i e) (hn : n < 1000) (h1 : (k = Str.ofString "gcb" ∧ IsDv v (.s (Str.ofString "Other"))) ∨ (k ≠ Str.ofString "gcb" ∧ g' = g)) (h2 : k ≠ Str.ofString "incb" ∧ i' = i) (h3 : (k = Str.ofString "ep" ∧ IsDv v (.b false)) ∨ (k ≠ Str.ofString "ep" ∧ e' = e))
    (h : ∀ h' o' tk, Fr h₀ L h' m → News h₀ L h' (gg o') → DefD w o' (n + 1) g' i' e' → Q () { s with heap := h', toks := tk }) : wpAny (model PySem.Challenge.rw_pq1305_01.row.prog w) A (setItem (.ref d) (.str k t) v) Q E s := by
  obtain ⟨kvs, a, b, c1, c2, c3⟩ := hd
  refine kda_set (knd := PySem.strKind _ _) F N U a (strKind_is _ _ _ _) (by rw [sizeLine_eq]; lia) fun h' o' F' N' hd' => h h' o' _ F' N' ⟨_, hd', Nat.le_trans (stored_length_le _ _ _) (by lia), ?_, ?_, ?_⟩
  · rcases h1 with ⟨rfl, q⟩ | ⟨q, rfl⟩
    · exact Has.self q
    · exact c1.other q
  · obtain ⟨q, rfl⟩ := h2
    exact c2.other q
  · rcases h3 with ⟨rfl, q⟩ | ⟨q, rfl⟩
    · exact Has.self q
    · exact c3.other q
end
/-- a loop over a made tuple of texts that turns one made object -/
theorem mt_tuple {prog : Program} {w : World} {A : Around} {E : Value → Shared → Prop} {s : Shared} {env : Env} {h₀ : Heap} {body : List Stmt} {Q : Flow → Shared → Prop} {x : Str} {px : Pos} {T a : Addr} {o₀ : Obj} {nn : Nat} {dd : Option Addr} {sl : Array (Option Value)} {items : List Value} {names : List Str} {m₀ : Str → Option Value} (K : Nat → Obj → Prop)
    (F : Fr h₀ env.locals s.heap m₀) (N : News h₀ env.locals s.heap [(T, ⟨.type "tuple", dd, .seq items.toArray nn, sl⟩), (a, o₀)]) (hh : A.handled = none) (hn : StrsAre items names) (hK : K 0 o₀)
    (turn : ∀ (i : Nat) k t o (u : Str → Option Value) h tk I oI, names[i]? = some k → K i o → @LT.lt Nat _ T I → @LT.lt Nat _ a I → Fr h₀ env.locals h (fun z => if [x].contains z then u z else m₀ z) → News h₀ env.locals h [(I, oI), (T, ⟨.type "tuple", dd, .seq items.toArray nn, sl⟩), (a, o)] →
      wpAny (model prog w) A (assign (.Name x px) env (.str k t)) (fun _ s₃ => wpAny (model prog w) A (execs body env) (TurnG h₀ env.locals { s with heap := h, toks := tk } Q [(I, oI)] (fun o => [(T, ⟨.type "tuple", dd, .seq items.toArray nn, sl⟩), (a, o)]) (fun _ => []) [x] m₀ (K (i + 1))) E s₃) E { s with heap := h, toks := tk })
    (done : ∀ o (u : Str → Option Value) h tk, K names.length o → Fr h₀ env.locals h (fun z => if [x].contains z then u z else m₀ z) → News h₀ env.locals h [(T, ⟨.type "tuple", dd, .seq items.toArray nn, sl⟩), (a, o)] → Q .next { s with heap := h, toks := tk }) :
    wpAny (model prog w) A (pyIter (.ref T)) (fun it s₂ => TurnsAt prog w A h₀ env (.Name x px) body Q E it s₂) E s := by
  have hT := N _ (.head _)
  have hl : s.heap.IsTuple T items.toArray := ⟨_, hT.1, rfl, nn, rfl⟩
  have hlt : @LT.lt Nat _ T s.heap.objs.size := Heap.lt_size hT.1
  have hla : @LT.lt Nat _ a s.heap.objs.size := Heap.lt_size (N _ (.tail _ (.head _))).1
  have hlen := hn.length
  refine wpAny_pyIter_tuple hl ?_
  have W := KTurns.ofWalks (target := .Name x px) (Walks.tuple (prog := prog) (w := w) hh s.heap.objs.size T (Nat.ne_of_lt hlt) items.toArray) (fun i v s Q E st q => wpAny_pure q)
  refine mt_core (tk0 := s.toks) W [s.heap.objs.size] (fun o => [(T, ⟨.type "tuple", dd, .seq items.toArray nn, sl⟩), (a, o)]) (fun _ => []) [x] K o₀ ?_ (fun b hb => hb) ?_ ?_ ?_ ?_ (F.push _) (fun p hp => ⟨Heap.get?_push_of_some _ (N p hp).1, (N p hp).2⟩) ?_ (List.forall_mem_nil _) hK ?_ ?_
  · intro hm
    rcases List.mem_cons.mp hm with e | hm
    · exact absurd F.ns.lt (e ▸ Nat.lt_irrefl _)
    · exact hT.2.1 (List.mem_singleton.mp hm).symm
  · intro b hb
    exact ⟨by rw [List.mem_singleton.mp hb]; exact List.mem_cons_self, by rw [List.mem_singleton.mp hb]; exact next_is_new F⟩
  · rintro i h ⟨⟨oi, hoi, _⟩, _⟩
    exact ⟨[(s.heap.objs.size, oi)], rfl, fun p hp => by rw [List.mem_singleton.mp hp]; exact hoi⟩
  · intro b hb
    rcases List.mem_cons.mp hb with rfl | hb
    · exact .inl List.mem_cons_self
    · rw [List.mem_singleton.mp hb]
      exact .inr (.inr ⟨_, fun c => List.mem_cons_self⟩)
  · exact ⟨⟨_, Heap.get?_push_size _ rfl, rfl, rfl⟩, hl.at fun o e => Heap.get?_push_of_some _ e⟩
  · intro p hp hI
    exact absurd (Heap.lt_size (N p hp).1) ((List.mem_singleton.mp hI) ▸ Nat.lt_irrefl _)
  · rintro i v c u h tk own hi hv hk' hown hne F₁ N₁
    obtain ⟨⟨I, oI⟩, rfl⟩ := mt_one hown
    have eI : I = s.heap.objs.size := by have := hown; simpa using this
    have hv' : items[i]? = some v := by simpa using hv
    have hi' : i < names.length := by rw [← hlen]; exact (List.getElem?_eq_some_iff.mp hv').1
    have hk : names[i]? = some names[i] := List.getElem?_eq_getElem hi'
    obtain ⟨t, q⟩ := hn.get i _ hk
    have e := Option.some.inj (hv'.symm.trans q)
    subst e
    generalize names[i] = k at hk
    refine wpAny_mono (turn i _ t c u h tk I oI hk hk' (by rw [eI]; exact hlt) (by rw [eI]; exact hla) F₁ N₁) (fun _ s₂ h₂ => wpAny_mono h₂ (fun f s₃ p => p.toF fun c' p hp q hq => ?_) fun _ _ e => e) fun _ _ e => e
    rw [List.mem_singleton.mp hq]
    show @Ne Nat p.1 I
    rw [eI]
    rcases List.mem_cons.mp hp with rfl | hp
    · exact Nat.ne_of_lt hlt
    · rw [List.mem_singleton.mp hp]; exact Nat.ne_of_lt hla
  · intro c u h tk hk' F₁ N₁
    rw [List.size_toArray, hlen] at hk'
    exact done c u h tk hk' F₁ N₁
local macro_rules | `(tactic| walk_at "exec For Name Tuple cons nil") => `(tactic| k_extra "@exec For Name Tuple cons nil")
local macro_rules | `(tactic| walk_at "Exists") => `(tactic| k_extra "@Exists")
theorem def_setF {w : World} {A : Around} {E : Value → Shared → Prop} {s : Shared} {h₀ : Heap} {L d : Addr} {m : Str → Option Value} {news : List (Addr × Obj)} {gg : Obj → List (Addr × Obj)} {o : Obj} {n : Nat} {g i e : Bool} {k : Str} {t : Tok} {Q : Unit → Shared → Prop} (F : Fr h₀ L s.heap m) (N : News h₀ L s.heap news) (U : UpdF d o news gg) (hd : DefD w o n g i e) (hn : n < 1000) (h1 : k ≠ Str.ofString "gcb") (h2 : k ≠ Str.ofString "incb")
    (h : ∀ h' o' tk, Fr h₀ L h' m → News h₀ L h' (gg o') → DefD w o' (n + 1) g i (e || decide (k = Str.ofString "ep")) → Q () { s with heap := h', toks := tk }) : wpAny (model PySem.Challenge.rw_pq1305_01.row.prog w) A (setItem (.ref d) (.str k t) (.bool false)) Q E s := by
  refine def_set F N U hd hn (.inr ⟨h1, rfl⟩) ⟨h2, rfl⟩ ?_ h
  by_cases q : k = Str.ofString "ep"
  · exact .inl ⟨q, rfl⟩
  · exact .inr ⟨q, by simp [q]⟩
theorem def_setN {w : World} {A : Around} {E : Value → Shared → Prop} {s : Shared} {h₀ : Heap} {L d : Addr} {m : Str → Option Value} {news : List (Addr × Obj)} {gg : Obj → List (Addr × Obj)} {o : Obj} {n : Nat} {g i e : Bool} {k : Str} {t : Tok} {v : Value} {Q : Unit → Shared → Prop} (F : Fr h₀ L s.heap m) (N : News h₀ L s.heap news) (U : UpdF d o news gg) (hd : DefD w o n g i e) (hn : n < 1000) (h1 : k ≠ Str.ofString "gcb") (h2 : k ≠ Str.ofString "incb") (h3 : k ≠ Str.ofString "ep")
    (h : ∀ h' o' tk, Fr h₀ L h' m → News h₀ L h' (gg o') → DefD w o' (n + 1) g i e → Q () { s with heap := h', toks := tk }) : wpAny (model PySem.Challenge.rw_pq1305_01.row.prog w) A (setItem (.ref d) (.str k t) v) Q E s :=
  def_set F N U hd hn (.inr ⟨h1, rfl⟩) ⟨h2, rfl⟩ (.inr ⟨h3, rfl⟩) h
def names1 : List Str := [Str.ofString "gcb", Str.ofString "wb", Str.ofString "sb"]
theorem names1_ok : ∀ k ∈ names1, k ≠ Str.ofString "incb" ∧ k ≠ Str.ofString "ep" := by decide +kernel
def K1 (w : World) (i : Nat) (o : Obj) : Prop := DefD w o (8 + i) ((names1.take i).any fun k => decide (k = Str.ofString "gcb")) true false
theorem K1.next {w : World} {i : Nat} {k : Str} {o : Obj} (hk : names1[i]? = some k) (h : DefD w o (8 + i + 1) (((names1.take i).any fun k => decide (k = Str.ofString "gcb")) || decide (k = Str.ofString "gcb")) true false) : K1 w (i + 1) o := by
  unfold K1
  rw [List.take_add_one, hk, List.any_append, ← Nat.add_assoc]
  simpa using h
theorem K1.last {w : World} {o : Obj} (h : K1 w names1.length o) : DefD w o 11 true true false := h
theorem def_setO {w : World} {A : Around} {E : Value → Shared → Prop} {s : Shared} {h₀ : Heap} {L d : Addr} {m : Str → Option Value} {news : List (Addr × Obj)} {gg : Obj → List (Addr × Obj)} {o : Obj} {n : Nat} {g i e : Bool} {k : Str} {t t' : Tok} {Q : Unit → Shared → Prop} (F : Fr h₀ L s.heap m) (N : News h₀ L s.heap news) (U : UpdF d o news gg) (hd : DefD w o n g i e) (hn : n < 1000) (h2 : k ≠ Str.ofString "incb") (h3 : k ≠ Str.ofString "ep")
    (h : ∀ h' o' tk, Fr h₀ L h' m → News h₀ L h' (gg o') → DefD w o' (n + 1) (g || decide (k = Str.ofString "gcb")) i e → Q () { s with heap := h', toks := tk }) : wpAny (model PySem.Challenge.rw_pq1305_01.row.prog w) A (setItem (.ref d) (.str k t) (.str (Str.ofString "Other") t')) Q E s := by
  refine def_set F N U hd hn ?_ ⟨h2, rfl⟩ (.inr ⟨h3, rfl⟩) h
  by_cases q : k = Str.ofString "gcb"
  · exact .inl ⟨q, rfl⟩
  · exact .inr ⟨q, by simp [q]⟩
def K3 (w : World) (i : Nat) (o : Obj) : Prop := DefD w o (24 + i) true true true
def K4 (w : World) (i : Nat) (o : Obj) : Prop := DefD w o (37 + i) true true true
def names2 : List Str := [Str.ofString "ex", Str.ofString "sd", Str.ofString "cased", Str.ofString "ci", Str.ofString "ep", Str.ofString "di", Str.ofString "ids", Str.ofString "idc", Str.ofString "xids", Str.ofString "xidc", Str.ofString "pat_syn", Str.ofString "pat_ws", Str.ofString "idst"]
def names3 : List Str := [Str.ofString "dm", Str.ofString "uc", Str.ofString "lc", Str.ofString "tc", Str.ofString "cf", Str.ofString "bm", Str.ofString "bpb", Str.ofString "scx", Str.ofString "nt", Str.ofString "nv", Str.ofString "name", Str.ofString "conf", Str.ofString "nfkc_cf"]
def names4 : List Str := [Str.ofString "suc", Str.ofString "slc", Str.ofString "stc", Str.ofString "alias"]
theorem names2_ok : ∀ k ∈ names2, k ≠ Str.ofString "gcb" ∧ k ≠ Str.ofString "incb" := by decide +kernel
theorem names3_ok : ∀ k ∈ names3, k ≠ Str.ofString "gcb" ∧ k ≠ Str.ofString "incb" ∧ k ≠ Str.ofString "ep" := by decide +kernel
theorem names4_ok : ∀ k ∈ names4, k ≠ Str.ofString "gcb" ∧ k ≠ Str.ofString "incb" ∧ k ≠ Str.ofString "ep" := by decide +kernel
def K2 (w : World) (i : Nat) (o : Obj) : Prop := DefD w o (11 + i) true true ((names2.take i).any fun k => decide (k = Str.ofString "ep"))
theorem K2.next {w : World} {i : Nat} {k : Str} {o : Obj} (hk : names2[i]? = some k) (h : DefD w o (11 + i + 1) true true (((names2.take i).any fun k => decide (k = Str.ofString "ep")) || decide (k = Str.ofString "ep"))) : K2 w (i + 1) o := by
  unfold K2
  rw [List.take_add_one, hk, List.any_append, ← Nat.add_assoc]
  simpa using h
theorem K2.last {w : World} {o : Obj} (h : K2 w names2.length o) : DefD w o 24 true true true := h
def strOf : PySem.Expr → Option Str
  | .Constant (.str x) _ _ => some x
  | _ => none
def strsOf : List PySem.Expr → Option (List Str)
  | [] => some []
  | e :: r => (strOf e).bind fun x => (strsOf r).map fun y => x :: y
theorem strOf_some {e : PySem.Expr} {x : Str} (h : strOf e = some x) : ∃ k p, e = .Constant (.str x) k p := by
  unfold strOf at h
  split at h
  · cases h; exact ⟨_, _, rfl⟩
  · cases h
theorem strs_items {M : Model} {A : Around} {E : Value → Shared → Prop} {env : Env} {pos : Pos} (elts : List PySem.Expr) : ∀ (names : List Str) (s : Shared) (Q : List Value → Shared → Prop), strsOf elts = some names →
    (∀ items tk, StrsAre items names → Q items { s with toks := tk }) → wpAny M A (spliced (backTo pos (starEach elts env))) Q E s := by
  induction elts with
  | nil =>
    intro names s Q he h
    cases he
    exact wpAny_items_nil (h [] s.toks .nil)
  | cons e r ih =>
    intro names s Q he h
    cases hx : strOf e with
    | none => simp [strsOf, hx] at he
    | some x =>
      cases hr : strsOf r with
      | none => simp [strsOf, hx, hr] at he
      | some ys =>
        have he' : x :: ys = names := by simpa [strsOf, hx, hr] using he
        subst he'
        obtain ⟨k, p, rfl⟩ := strOf_some hx
        refine wpAny_items_cons (wpAny_Constant_str ?_)
        exact ih ys _ _ hr fun items tk hi => h _ tk (.cons x _ hi)
theorem For_strs {prog : Program} {w : World} {A : Around} {E : Value → Shared → Prop} {s : Shared} {env : Env} {h₀ : Heap} {body : List Stmt} {Q : Flow → Shared → Prop} {x : Str} {px pos tp : Pos} {kk : Nat} {elts : List PySem.Expr} {a : Addr} {o₀ : Obj} {names : List Str} {m₀ : Str → Option Value} (K : Nat → Obj → Prop)
    (F : Fr h₀ env.locals s.heap m₀) (N : News h₀ env.locals s.heap [(a, o₀)]) (hh : A.handled = none) (he : strsOf elts = some names) (hl : names.length ≤ 1000) (hK : K 0 o₀)
    (turn : ∀ (i : Nat) k t o (u : Str → Option Value) h tk I oI T oT, names[i]? = some k → K i o → @LT.lt Nat _ T I → @LT.lt Nat _ a I → @LT.lt Nat _ a T → Fr h₀ env.locals h (fun z => if [x].contains z then u z else m₀ z) → News h₀ env.locals h [(I, oI), (T, oT), (a, o)] →
      wpAny (model prog w) A (assign (.Name x px) env (.str k t)) (fun _ s₃ => wpAny (model prog w) A (execs body env) (TurnG h₀ env.locals { s with heap := h, toks := tk } Q [(I, oI)] (fun o => [(T, oT), (a, o)]) (fun _ => []) [x] m₀ (K (i + 1))) E s₃) E { s with heap := h, toks := tk })
    (done : ∀ o (u : Str → Option Value) h tk, K names.length o → Fr h₀ env.locals h (fun z => if [x].contains z then u z else m₀ z) → News h₀ env.locals h [(a, o)] → Q .next { s with heap := h, toks := tk })
    (hE : PassesOwn (model prog w) A env E := by passes_own) :
    wpAny (model prog w) A (exec (.For (.Name x px) (.Tuple elts kk tp) body [] pos) env) Q E s := by
  refine For_turns F (wpAny_Tuple (strs_items elts names s _ he fun items tk hi => ?_)) (by intro _; rfl) hE
  have hlen := hi.length
  have hla : @LT.lt Nat _ a s.heap.objs.size := Heap.lt_size (N _ (.head _)).1
  refine ⟨by rw [PySem.sizeLine_eq]; lia, ?_⟩
  have NT : News h₀ env.locals (s.heap.push { cls := .type "tuple", data := .seq items.toArray }) [(s.heap.objs.size, { cls := .type "tuple", data := .seq items.toArray }), (a, o₀)] := fun p hp => by
    rcases List.mem_cons.mp hp with rfl | hp
    · exact ⟨Heap.get?_push_size _ rfl, Nat.ne_of_gt F.ns.lt, next_is_new F⟩
    · exact ⟨Heap.get?_push_of_some _ (N p hp).1, (N p hp).2⟩
  refine mt_tuple K (F.push _) NT hh hi hK (fun i k t o u h tk I oI hk hKi hT ha F₁ N₁ => ?_) fun o u h tk hKn F₁ N₁ => ?_
  · exact turn i k t o u h tk I oI _ _ hk hKi hT ha hla F₁ N₁
  · exact done o u h tk hKn F₁ fun p hp => N₁ p (List.mem_cons_of_mem _ hp)
theorem K3.last {w : World} {o : Obj} (h : K3 w names3.length o) : K4 w 0 o := h
theorem K4.last {w : World} {o : Obj} (h : K4 w names4.length o) : DefD w o 41 true true true := h
theorem K2.start {w : World} {o : Obj} (h : DefD w o 11 true true false) : K2 w 0 o := h
theorem K3.start {w : World} {o : Obj} (h : DefD w o 24 true true true) : K3 w 0 o := h
theorem K1.start {w : World} {o : Obj} (h : DefD w o 8 false true false) : K1 w 0 o := h
def DefR (w : World) (v : Value) (mu : List (Addr × Obj)) : Prop := ∃ a o, v = .ref a ∧ mu = [(a, o)] ∧ DefD w o 42 true true true ∧ (a == sysModules) = false
theorem c_defaults : ∀ (w : World), CtrM w 248 1 [] [] (fun _ => True) (DefR w) := by
  intro w
  k_dflt (refine' CtrM.bodyX Mono.top (binds := []) ?ho ?hcd ?hbind ?hloc ?h ?hcell ?hd1 ?hco ?hgen ?hk; (case ho => k_is); (case hcd => k_is); (case hbind => first | exact fun _ _ => BindsTo.of_eq rfl | exact fun _ X' => binds_K X' rfl (by k_is) rfl rfl rfl); (case hloc => exact locs rfl); (case hcell => decide); (case hd1 => decide); (case hco => exact rfl); (case hgen => exact rfl); (case hk => exact rfl))
  intro kx
  revert w kx
  refine seal2 (dW, dCx) ?_
  generalize sl2_0 _ _ = w, sl2_1 _ _ = kx
  w_top off
  intro B F N X T hdp hun hP
  have _ : Dm := Dm.mk
  have _ : Rim := Rim.mk
  k_with_none
  k_with "@setItem ref str" => ((k_here; k_extra "dset"))
  k_with "@exec For Name Tuple cons nil" => ((k_here; k_extra "for"))
  k_with "@Exists" => ((k_here; k_extra "made"))
  k_with "k0" => (k_here; (with_reducible show wpAny _ _ (callWith _ (Value.ref _) _ (backTo _ (starEach [] _)) []) _ _ _); k_dflt (refine' callWith_K0 ?k1_q9 ?k2_q9 ?_; (case k1_q9 => first | with_reducible assumption | exact Frag.In.keeps (by with_reducible assumption) (Fr.keep (by with_reducible assumption))); (case k2_q9 => k_is); k_whole))
  k_with "fold" => (k_fold; (with_reducible rename Dm => d9); revert d9; revert ek; revert qk; intro qk ek _)
  k_with "seal0" =>
    (with_reducible show wpAny _ _ (execs (_ :: _) _) _ _ _)
    (try k_extra "preseal")
    (fail_if_success (have y9 := ‹_›; (with_reducible have y8 : Rim := y9)))
    (repeat ((fail_if_success (have y9 := ‹_›; (with_reducible have y8 : Rim := y9))); first | ((fail_if_success (have y9 := ‹_›; have y8 : (_ : Prop) := y9)); clear (‹_›)) | revert (‹_›)))
    (repeat (first
      | ((with_reducible refine seal2 dHT ?_); (generalize sl2_0 _ _ = z8, sl2_1 _ _ = z7))
      | ((with_reducible refine seal1 dHp ?_); (generalize eps _ _ = z8))
      | ((with_reducible refine seal1 (0 : Nat) ?_); (generalize eps _ _ = z8))
      | ((with_reducible refine seal1 default ?_); (generalize eps _ _ = z8))
      | (with_reducible intro _)))
    ((with_reducible rename Rim => m9); revert m9; intro _)

  k_with "made" =>
    k_dflt (refine made_str (by k_asm) (by first | k_asm | exact News.nil) (by rfl) (of_decide_eq_true (by rfl)) ?_)
    intro h1 o1 F1 N1 hd1
    k_dflt (change News _ _ _ ((kx.s.heap.objs.size, o1) :: _) at N1)
    have lo1 : (kx.s.heap.objs.size == sysModules) = false := Fr.notModules (by k_asm) (modules_low (Top.nolimit (by k_asm)))
    have hD1 := K1.start <| DefD.first w hd1 (by k_dflt (exact Nat.le_of_eq rfl)) (by k_dflt (exact ⟨_, rfl, rfl⟩))
    clear hd1
    (try simp only [List.length_cons, List.length_nil, Nat.zero_add, Nat.add_assoc, Nat.reduceAdd])
  k_with "for" =>
    first
      | ((with_reducible show wpAny _ _ (exec (Stmt.For _ (PySem.Expr.Tuple (PySem.Expr.Constant (Const.str (Str.ofString "gcb")) _ _ :: _) _ _) _ _ _) _) _ _ _); (with_reducible refine' For_strs (a := kx.s.heap.objs.size) (names := names1) (K1 w) ?F ?N ?hh ?he ?hl ?hK ?_ ?_); k_dflt ((case F => k_asm); (case N => k_asm); (case he => rfl); (case hl => decide); (case hh => rfl); (case hK => assumption)))
      | ((with_reducible show wpAny _ _ (exec (Stmt.For _ (PySem.Expr.Tuple (PySem.Expr.Constant (Const.str (Str.ofString "ex")) _ _ :: _) _ _) _ _ _) _) _ _ _); (with_reducible refine' For_strs (a := kx.s.heap.objs.size) (names := names2) (K2 w) ?F ?N ?hh ?he ?hl ?hK ?_ ?_); k_dflt ((case F => k_asm); (case N => k_asm); (case he => rfl); (case hl => decide); (case hh => rfl); (case hK => assumption)))
      | ((with_reducible show wpAny _ _ (exec (Stmt.For _ (PySem.Expr.Tuple (PySem.Expr.Constant (Const.str (Str.ofString "dm")) _ _ :: _) _ _) _ _ _) _) _ _ _); (with_reducible refine' For_strs (a := kx.s.heap.objs.size) (names := names3) (K3 w) ?F ?N ?hh ?he ?hl ?hK ?_ ?_); k_dflt ((case F => k_asm); (case N => k_asm); (case he => rfl); (case hl => decide); (case hh => rfl); (case hK => assumption)))
      | ((with_reducible show wpAny _ _ (exec (Stmt.For _ (PySem.Expr.Tuple (PySem.Expr.Constant (Const.str (Str.ofString "suc")) _ _ :: _) _ _) _ _ _) _) _ _ _); (with_reducible refine' For_strs (a := kx.s.heap.objs.size) (names := names4) (K4 w) ?F ?N ?hh ?he ?hl ?hK ?_ ?_); k_dflt ((case F => k_asm); (case N => k_asm); (case he => rfl); (case hl => decide); (case hh => rfl); (case hK => assumption)))
    intro i9 k9 t9 o9 u9 h9 tk9 I9 oI9 T9 oT9 hk9 hK9 hT9 ha9 haT9 F9 N9
    rotate_left
    intro o9 u9 h9 tk9 hK9 F9 N9
    first
      | have hD9 := K2.start (K1.last hK9)
      | have hD9 := K3.start (K2.last hK9)
      | have hD9 := K3.last hK9
      | have hD9 := K4.last hK9
    rotate_right
  k_with "dset" =>
    first
      | ((with_reducible (have hk8 : names1[i9]? = some k9 := hk9)); k_dflt (refine' def_setO ?F ?N ?U ?d ?n (names1_ok _ (List.mem_of_getElem? hk9)).1 (names1_ok _ (List.mem_of_getElem? hk9)).2 ?_; (case F => k_asm); (case N => k_asm); (case U => k_updF); (case d => exact hK9); (case n => have := (List.getElem?_eq_some_iff.mp hk9).1; simp only [names1, List.length_cons, List.length_nil] at this; lia)))
      | ((with_reducible (have hk8 : names2[i9]? = some k9 := hk9)); k_dflt (refine' def_setF ?F ?N ?U ?d ?n (names2_ok _ (List.mem_of_getElem? hk9)).1 (names2_ok _ (List.mem_of_getElem? hk9)).2 ?_; (case F => k_asm); (case N => k_asm); (case U => k_updF); (case d => exact hK9); (case n => have := (List.getElem?_eq_some_iff.mp hk9).1; simp only [names2, List.length_cons, List.length_nil] at this; lia)))
      | ((with_reducible (have hk8 : names3[i9]? = some k9 := hk9)); k_dflt (refine' def_setN ?F ?N ?U ?d ?n (names3_ok _ (List.mem_of_getElem? hk9)).1 (names3_ok _ (List.mem_of_getElem? hk9)).2.1 (names3_ok _ (List.mem_of_getElem? hk9)).2.2 ?_; (case F => k_asm); (case N => k_asm); (case U => k_updF); (case d => exact hK9); (case n => have := (List.getElem?_eq_some_iff.mp hk9).1; simp only [names3, List.length_cons, List.length_nil] at this; lia)))
      | ((with_reducible (have hk8 : names4[i9]? = some k9 := hk9)); k_dflt (refine' def_setN ?F ?N ?U ?d ?n (names4_ok _ (List.mem_of_getElem? hk9)).1 (names4_ok _ (List.mem_of_getElem? hk9)).2.1 (names4_ok _ (List.mem_of_getElem? hk9)).2.2 ?_; (case F => k_asm); (case N => k_asm); (case U => k_updF); (case d => exact hK9); (case n => have := (List.getElem?_eq_some_iff.mp hk9).1; simp only [names4, List.length_cons, List.length_nil] at this; lia)))
      | (k_dflt (refine' def_setN ?F ?N ?U ?d ?n ?a1 ?a2 ?a3 ?_; (case F => k_asm); (case N => k_asm); (case U => k_updF); (case d => exact hD9); (case n => decide); (case a1 => decide); (case a2 => decide); (case a3 => decide)))
    intro h' o' tk' F' N' hD'
    (try dsimp only at N')
  ((try ((with_reducible rename Rim => m9); revert m9; intro _)); k_steps)
  all_goals (try dsimp only)
  all_goals first
    | ((with_reducible (have hk8 : names1[i9]? = some k9 := hk9)); exact TurnG.mk _ (by assumption) (by assumption) (by kst_in) (by kst_in) (List.forall_mem_nil _) (by ksw_same) (K1.next hk9 hD'))
    | ((with_reducible (have hk8 : names2[i9]? = some k9 := hk9)); exact TurnG.mk _ (by assumption) (by assumption) (by kst_in) (by kst_in) (List.forall_mem_nil _) (by ksw_same) (K2.next hk9 hD'))
    | exact TurnG.mk _ (by assumption) (by assumption) (by kst_in) (by kst_in) (List.forall_mem_nil _) (by ksw_same) hD'
    | (refine' DoneM.mk (mu' := [(_, o')]) (by assumption) (by assumption) ?hs ⟨_, _, rfl, rfl, hD', lo1⟩; (case hs => exact (List.forall_mem_cons.mpr ⟨by k_mem, List.forall_mem_nil _⟩)))
def DinitR (w : World) (x dx : Addr) (v : Value) (mu : List (Addr × Obj)) : Prop :=
  v = .none ∧ ∃ df mp q u pp ww odf omp, mu = daL x dx df mp q u pp ww odf omp ∧ DefD w odf 42 true true true ∧ omp.IsDictOf (PySem.strKind PySem.Challenge.rw_pq1305_01.row.prog w) [] ∧ (df == sysModules) = false ∧ (mp == sysModules) = false ∧ (mu.map (·.1)).Nodup
theorem DefR.nd {w : World} : ∀ r mu, DefR w r mu → (mu.map (·.1)).Nodup := by
  rintro r mu ⟨a, o, -, rfl, -⟩
  simp
theorem dinit_done {w : World} {x dx df mp : Addr} {h0 h1 h2 h3 : Int} {t0 t1 t2 t3 : Tok} {pp ww : Value} {odf omp : Obj} {g h' : Heap} {L : Addr} {s : Shared} {tk' : Nat} {m' : Str → Option Value} {mu : List (Addr × Obj)} (F : Fr g L h' m') (N : News g L h' mu)
    (m3 : (dx, dictOf [⟨h0, .str (Str.ofString "defaults") t0, .ref df⟩, ⟨h1, .str (Str.ofString "maps") t1, .ref mp⟩, ⟨h2, .str (Str.ofString "properties") t2, pp⟩, ⟨h3, .str (Str.ofString "words") t3, ww⟩] 4) ∈ mu) (m1 : (mp, omp) ∈ mu) (m2 : (x, instObj 286 dx) ∈ mu) (m4 : (df, odf) ∈ mu)
    (nd : ([mp, x, dx, df] : List Nat).Nodup) (hD : DefD w odf 42 true true true) (he : omp.IsDictOf (PySem.strKind PySem.Challenge.rw_pq1305_01.row.prog w) []) (lo1 : (df == sysModules) = false) (lo2 : (mp == sysModules) = false) : DoneM g L s (DinitR w x dx) .next { s with heap := h', toks := tk' } :=
  DoneM.mk (mu' := daL x dx df mp (fun i => [h0, h1, h2, h3].getD i 0) (fun i => [t0, t1, t2, t3].getD i 0) pp ww odf omp) F N (List.forall_mem_cons.mpr ⟨m1, List.forall_mem_cons.mpr ⟨m2, List.forall_mem_cons.mpr ⟨m3, List.forall_mem_cons.mpr ⟨m4, List.forall_mem_nil _⟩⟩⟩⟩) ⟨rfl, df, mp, _, _, pp, ww, odf, omp, rfl, hD, he, lo1, lo2, nd⟩
theorem c_dinit : ∀ (w : World) (x : Addr) (dx : Addr), (@Ne Nat x dx) → CtrM w 262 2 [.ref x] [(x, instObj 286 dx), (dx, dictOf [] 0)] (fun _ => True) (DinitR w x dx) := by
  intro w x dx hne
  k_dflt (refine' CtrM.bodyX Mono.top (binds := [(Str.ofString "self", .ref x)]) ?ho ?hcd ?hbind ?hloc ?h ?hcell ?hd1 ?hco ?hgen ?hk; (case ho => k_is); (case hcd => k_is); (case hbind => first | exact fun _ _ => BindsTo.of_eq rfl | exact fun _ X' => binds_K X' rfl (by k_is) rfl rfl rfl); (case hloc => exact locs rfl); (case hcell => decide); (case hd1 => decide); (case hco => exact rfl); (case hgen => exact rfl); (case hk => exact rfl))
  intro kx
  revert hne
  revert w x dx kx
  refine seal3 (dW, default, default) ?_
  generalize sl3_0 _ _ = w, sl3_1 _ _ = x, sl3_2 _ _ = dx
  refine seal1 (dCx) ?_
  generalize eps _ _ = kx
  intro hne
  w_top off
  intro B F N X T hdp hun hP
  have _ : Dm := Dm.mk
  have _ : Rim := Rim.mk
  k_with_none
  k_with "@call ref" => ((k_here; (with_reducible show wpAny _ _ (call (Value.ref 248) _) _ _ _); k_extra "defs"))
  k_with "k0" => (k_here; (with_reducible show wpAny _ _ (callWith _ (Value.ref _) _ (backTo _ (starEach [] _)) []) _ _ _); k_dflt (refine' callWith_K0 ?k1_q9 ?k2_q9 ?_; (case k1_q9 => first | with_reducible assumption | exact Frag.In.keeps (by with_reducible assumption) (Fr.keep (by with_reducible assumption))); (case k2_q9 => k_is); k_whole))
  k_with "fold" => (k_fold; (with_reducible rename Dm => d9); revert d9; revert ek; revert qk; intro qk ek _)
  k_with "seal0" =>
    (with_reducible show wpAny _ _ (execs (_ :: _) _) _ _ _)
    (try k_extra "preseal")
    (fail_if_success (have y9 := ‹_›; (with_reducible have y8 : Rim := y9)))
    (repeat ((fail_if_success (have y9 := ‹_›; (with_reducible have y8 : Rim := y9))); first | ((fail_if_success (have y9 := ‹_›; have y8 : (_ : Prop) := y9)); clear (‹_›)) | revert (‹_›)))
    (repeat (first
      | ((with_reducible refine seal2 dHT ?_); (generalize sl2_0 _ _ = z8, sl2_1 _ _ = z7))
      | ((with_reducible refine seal1 dHp ?_); (generalize eps _ _ = z8))
      | ((with_reducible refine seal1 (0 : Nat) ?_); (generalize eps _ _ = z8))
      | ((with_reducible refine seal1 default ?_); (generalize eps _ _ = z8))
      | (with_reducible intro _)))
    ((with_reducible rename Rim => m9); revert m9; intro _)

  have hne' : x ≠ dx := hne
  k_with "defs" =>
    k_dflt (refine' CtrM.useN (c_defaults w) [] [(x, instObj 286 dx), (dx, dictOf [] 0)] ?k1 ?k2 ?k3 ?k4 ?nd ?k5 ?k6 ?k7 ?k8 ?k9 ?hR ?_; (case k1 => k_asm); (case k2 => k_asm); (case k3 => k_asm); (case k4 => exact N); (case nd => simp [hne']); (case k5 => k_asm); (case k6 => first | exact rfl | assumption); (case k7 => trivial); (case k8 => ktr_room); (case k9 => ktr_units); (case hR => exact DefR.nd))
    intro r9 h9 tk9 mu9 F9 N9 nd9 hr9
    unfold DefR at hr9
    obtain ⟨a9, o9, e9, m9, hD9, lo9⟩ := hr9
    subst e9
    subst m9
    simp only [List.nil_append, List.cons_append, List.map_cons, List.map_nil, List.nodup_cons, List.mem_cons, List.not_mem_nil, or_false, not_or] at nd9 N9
    have ne1 : @Ne Nat a9 x := nd9.1.1
    have ne2 : @Ne Nat a9 dx := nd9.1.2
    clear nd9
  ((try ((with_reducible rename Rim => m9); revert m9; intro _)); k_steps)
  all_goals (try dsimp only)
  refine' dinit_done ?F ?N ?m3 ?m1 ?m2 ?m4 ?nd hD9 ?he lo9 ?lo2
  case F => assumption
  case N => assumption
  case m3 => (repeat (first | exact List.Mem.head _ | apply List.Mem.tail))
  case m1 => (repeat (first | exact List.Mem.head _ | apply List.Mem.tail))
  case m2 => (repeat (first | exact List.Mem.head _ | apply List.Mem.tail))
  case m4 => (repeat (first | exact List.Mem.head _ | apply List.Mem.tail))
  case he => assumption
  case lo2 => assumption
  case nd =>
    simp only [List.nodup_cons, List.mem_cons, List.not_mem_nil, or_false, not_or, List.nodup_nil, and_true, not_false_eq_true]
    repeat' (first | apply And.intro | (refine neN ?_; lia))
/-- a turn's end, the ledger's addresses all apart -/
def TurnN {σ : Type} (h₀ : Heap) (L : Addr) (s : Shared) (Q : Flow → Shared → Prop) (own : List (Addr × Obj)) (Led : σ → List (Addr × Obj)) (ps : σ → List (Str × Value)) (stored : List Str) (m₀ : Str → Option Value) (K : σ → Prop) (f : Flow) (s' : Shared) : Prop :=
  match f with
  | .ret v => Q (.ret v) s'
  | .brk => Q .next s'
  | _ => ∃ c' h' tk' m' news', s' = { s with heap := h', toks := tk' } ∧ Fr h₀ L h' m' ∧ News h₀ L h' news' ∧ (∀ p ∈ own, p ∈ news') ∧ (∀ p ∈ Led c', p ∈ news') ∧ ((own ++ Led c').map (·.1)).Nodup ∧ (∀ p ∈ ps c', m' p.1 = some p.2) ∧ (∀ z, (∀ p ∈ ps c', z ≠ p.1) → stored.contains z = false → m' z = m₀ z) ∧ K c'
theorem TurnN.mk {σ : Type} {h₀ : Heap} {L : Addr} {s : Shared} {Q : Flow → Shared → Prop} {own : List (Addr × Obj)} {Led : σ → List (Addr × Obj)} {ps : σ → List (Str × Value)} {stored : List Str} {m₀ : Str → Option Value} {K : σ → Prop} {h' : Heap} {tk' : Nat} {m' : Str → Option Value} {news' : List (Addr × Obj)} (c' : σ)
    (F : Fr h₀ L h' m') (N : News h₀ L h' news') (ho : ∀ p ∈ own, p ∈ news') (hl : ∀ p ∈ Led c', p ∈ news') (hne : ((own ++ Led c').map (·.1)).Nodup) (hk : ∀ p ∈ ps c', m' p.1 = some p.2) (hr : ∀ z, (∀ p ∈ ps c', z ≠ p.1) → stored.contains z = false → m' z = m₀ z) (k : K c') :
    TurnN h₀ L s Q own Led ps stored m₀ K .next { s with heap := h', toks := tk' } := ⟨c', h', tk', m', news', rfl, F, N, ho, hl, hne, hk, hr, k⟩
theorem nodup_split {a b : List (Addr × Obj)} (h : ((a ++ b).map (·.1)).Nodup) : (a.map (·.1)).Nodup ∧ (b.map (·.1)).Nodup ∧ ∀ p ∈ a, ∀ q ∈ b, @Ne Nat p.1 q.1 := by
  rw [List.map_append] at h
  obtain ⟨h1, h2, h3⟩ := List.nodup_append.mp h
  exact ⟨h1, h2, fun p hp q hq => h3 _ (List.mem_map_of_mem hp) _ (List.mem_map_of_mem hq)⟩
theorem nodup_join {a b : List (Addr × Obj)} (h1 : (a.map (·.1)).Nodup) (h2 : (b.map (·.1)).Nodup) (h3 : ∀ p ∈ a, ∀ q ∈ b, @Ne Nat p.1 q.1) : ((a ++ b).map (·.1)).Nodup := by
  rw [List.map_append]
  refine List.nodup_append.mpr ⟨h1, h2, fun x hx y hy => ?_⟩
  obtain ⟨p, hp, rfl⟩ := List.mem_map.mp hx
  obtain ⟨q, hq, rfl⟩ := List.mem_map.mp hy
  exact h3 p hp q hq
theorem TurnN.toF {σ : Type} {h₀ : Heap} {s : Shared} {Q : Flow → Shared → Prop} {L : Addr} {own : List (Addr × Obj)} {Led : σ → List (Addr × Obj)} {ps : σ → List (Str × Value)} {stored : List Str} {m₀ : Str → Option Value} {K : σ → Prop} {f : Flow} {s' : Shared} (h : TurnN h₀ L s Q own Led ps stored m₀ K f s') : TurnF h₀ L s Q own Led ps stored m₀ (fun c => K c ∧ ((Led c).map (·.1)).Nodup) f s' := by
  have key : TurnN h₀ L s Q own Led ps stored m₀ K .next s' → TurnF h₀ L s Q own Led ps stored m₀ (fun c => K c ∧ ((Led c).map (·.1)).Nodup) .next s' := by
    rintro ⟨c', h', tk', m', news', e, F, N, ho, hl, hne, hk, hr, k⟩
    obtain ⟨_, n2, n3⟩ := nodup_split hne
    exact ⟨c', h', tk', m', news', e, F, N, ho, hl, fun p hp q hq => (n3 q hq p hp).symm, hk, hr, k, n2⟩
  cases f with
  | ret v => exact h
  | brk => exact h
  | next => exact key h
  | cont => exact key h
section
variable {prog : Program} {w : World} {A : Around} {E : Value → Shared → Prop} {s : Shared} {env : Env} {h₀ : Heap} {body : List Stmt} {Q : Flow → Shared → Prop}
theorem mt_rangeN {σ : Type} {x : Str} {px : Pos} {r : Addr} {a₀ b₀ : Int} {t₀ u₀ v₀ : Tok} {n : Nat} {m₀ : Str → Option Value} (Led : σ → List (Addr × Obj)) (ps : σ → List (Str × Value)) (stored : List Str) (K : Nat → σ → Prop) (c₀ : σ)
    (hh : A.handled = none) (hr : IsRange s.heap r a₀ b₀ 1 t₀ u₀ v₀) (hsmall : Builtin.Range.small a₀ b₀ 1 = true) (hn : Builtin.Range.rangeSize a₀ b₀ 1 = (n : Int)) (F : Fr h₀ env.locals s.heap m₀) (N : News h₀ env.locals s.heap (Led c₀)) (nd : ((Led c₀).map (·.1)).Nodup) (hk : ∀ p ∈ ps c₀, m₀ p.1 = some p.2) (hK : K 0 c₀)
    (turn : ∀ (i : Nat) c t (u : Str → Option Value) h tk I oI, i < n → K i c → (([(I, oI)] ++ Led c).map (·.1)).Nodup → Fr h₀ env.locals h (kstB (fun z => if stored.contains z then u z else m₀ z) (ps c)) → News h₀ env.locals h ((I, oI) :: Led c) →
      wpAny (model prog w) A (assign (.Name x px) env (.int (a₀ + (i : Int)) t)) (fun _ s₃ => wpAny (model prog w) A (execs body env) (TurnN h₀ env.locals { s with heap := h, toks := tk } Q [(I, oI)] Led ps stored m₀ (K (i + 1))) E s₃) E { s with heap := h, toks := tk })
    (done : ∀ c (u : Str → Option Value) h tk, K n c → ((Led c).map (·.1)).Nodup → Fr h₀ env.locals h (kstB (fun z => if stored.contains z then u z else m₀ z) (ps c)) → News h₀ env.locals h (Led c) → Q .next { s with heap := h, toks := tk }) :
    wpAny (model prog w) A (pyIter (.ref r)) (fun it s₂ => TurnsAt prog w A h₀ env (.Name x px) body Q E it s₂) E s := by
  refine mt_range Led ps stored (fun i c => K i c ∧ ((Led c).map (·.1)).Nodup) c₀ hh hr hsmall hn F N hk ⟨hK, nd⟩ ?_ fun c u h tk hc => done c u h tk hc.1 hc.2
  intro i c t u h tk I oI hi hc hne F₁ N₁
  refine wpAny_mono (turn i c t u h tk I oI hi hc.1 (nodup_join (by simp) hc.2 fun p hp q hq => ?_) F₁ N₁) (fun _ s₂ h₂ => wpAny_mono h₂ (fun f s₃ p => p.toF) fun _ _ e => e) fun _ _ e => e
  rw [List.mem_singleton.mp hp]
  exact (hne q hq).symm
theorem mt_enumN {σ : Type} {elts : List PySem.Expr} {k : Nat} {pos : Pos} {l : Addr} {lo : Obj} {vs : List Value} {nn : Nat} {m₀ : Str → Option Value} (Led : σ → List (Addr × Obj)) (ps : σ → List (Str × Value)) (stored : List Str) (K : Nat → σ → Prop) (c₀ : σ)
    (hh : A.handled = none) (F : Fr h₀ env.locals s.heap m₀) (N : News h₀ env.locals s.heap (Led c₀)) (nd : ((Led c₀).map (·.1)).Nodup) (hm : ∀ c, (l, lo) ∈ Led c) (hc : lo.cls = .type "list") (hd : lo.data = .seq vs.toArray nn) (hk : ∀ p ∈ ps c₀, m₀ p.1 = some p.2) (hK : K 0 c₀)
    (turn : ∀ (i : Nat) v T t c (u : Str → Option Value) h tk I oI J oJ, vs[i]? = some v → IsTup h T #[.int (i : Int) t, v] → K i c → (([(I, oI), (J, oJ)] ++ Led c).map (·.1)).Nodup → Fr h₀ env.locals h (kstB (fun z => if stored.contains z then u z else m₀ z) (ps c)) → News h₀ env.locals h ((I, oI) :: (J, oJ) :: Led c) →
      wpAny (model prog w) A (assign (.Tuple elts k pos) env (.ref T)) (fun _ s₃ => wpAny (model prog w) A (execs body env) (TurnN h₀ env.locals { s with heap := h, toks := tk } Q [(I, oI), (J, oJ)] Led ps stored m₀ (K (i + 1))) E s₃) E { s with heap := h, toks := tk })
    (done : ∀ c (u : Str → Option Value) h tk, K vs.length c → ((Led c).map (·.1)).Nodup → Fr h₀ env.locals h (kstB (fun z => if stored.contains z then u z else m₀ z) (ps c)) → News h₀ env.locals h (Led c) → Q .next { s with heap := h, toks := tk }) :
    wpAny (model prog w) A (call (.type "enumerate") [.ref l]) (fun xv s₁ => wpAny (model prog w) A (pyIter xv) (fun it s₂ => TurnsAt prog w A h₀ env (.Tuple elts k pos) body Q E it s₂) E s₁) E s := by
  have hax := N _ (hm c₀)
  have hl : s.heap.IsList l vs.toArray := ⟨lo, hax.1, hc, nn, hd⟩
  have hlt : @LT.lt Nat _ l s.heap.objs.size := Heap.lt_size hax.1
  have hLs : @LT.lt Nat _ env.locals s.heap.objs.size := F.ns.lt
  refine call_enumerate_list hl fun h' hE hI hsz hk9 => ?_
  refine wpAny_pyIter_enum hE ?_
  have W := KTurns.ofWalksU (elts := elts) (k := k) (pos := pos) (WalksT.enumerate (prog := prog) (w := w) hh (s.heap.objs.size + 1) s.heap.objs.size l (Nat.succ_ne_self _) (ktu_ne 1 hlt) (Nat.ne_of_lt hlt) vs.toArray).toU
  refine mt_core (tk0 := s.toks) W [s.heap.objs.size + 1, s.heap.objs.size] Led ps stored (fun i c => K i c ∧ ((Led c).map (·.1)).Nodup) c₀ ?_ ?_ ?_ ?_ ?_ ?_ (F.keeps hk9) (N.grown hk9) ?_ hk ⟨hK, nd⟩ ?_ ?_
  · intro hI'
    have hb' : env.locals = s.heap.objs.size + 1 ∨ env.locals = s.heap.objs.size ∨ env.locals = l := by simpa using hI'
    rcases hb' with e | e | e
    · exact ktu_ne 1 hLs e
    · exact Nat.ne_of_lt hLs e
    · exact hax.2.1 e.symm
  · intro b hb
    simpa using hb
  · intro b hb
    have hb' : b = s.heap.objs.size + 1 ∨ b = s.heap.objs.size := by simpa using hb
    rcases hb' with rfl | rfl
    · exact ⟨by simp, mt_new F (Nat.le_add_right _ _)⟩
    · exact ⟨by simp, mt_new F (Nat.le_refl _)⟩
  · rintro i h ⟨⟨old, he⟩, ⟨oi, hoi, hic, _⟩, _⟩
    have he' : ∃ oe : Obj, h.get? (s.heap.objs.size + 1) = some oe := ⟨_, he⟩
    obtain ⟨oe, h1⟩ := he'
    refine ⟨[(s.heap.objs.size + 1, oe), (s.heap.objs.size, oi)], rfl, fun p hp => ?_⟩
    rcases List.mem_cons.mp hp with rfl | hp
    · exact h1
    · rw [List.mem_singleton.mp hp]; exact hoi
  · intro b hb
    have hb' : b = s.heap.objs.size + 1 ∨ b = s.heap.objs.size ∨ b = l := by simpa using hb
    rcases hb' with rfl | rfl | rfl
    · exact .inl (by simp)
    · exact .inl (by simp)
    · exact .inr (.inr ⟨lo, hm⟩)
  · exact ⟨⟨.none, hE⟩, hI, hl.at fun o e => hk9 l o e⟩
  · intro p hp hI'
    have hb' : p.1 = s.heap.objs.size + 1 ∨ p.1 = s.heap.objs.size := by simpa using hI'
    have hlp : @LT.lt Nat _ p.1 s.heap.objs.size := Heap.lt_size (N p hp).1
    rcases hb' with e | e
    · exact ktu_ne 1 hlp e
    · exact Nat.ne_of_lt hlp e
  · rintro i v c u h tk own hi ⟨T, vals, rfl, ⟨t, x, hx, rfl⟩, hT⟩ hk' hown hne F₁ N₁
    obtain ⟨⟨I, oI⟩, ⟨J, oJ⟩, rfl⟩ := mt_two hown
    have hIJ : @Ne Nat I J := by
      have e1 : I = s.heap.objs.size + 1 ∧ J = s.heap.objs.size := by simpa using hown
      rw [e1.1, e1.2]
      exact Nat.succ_ne_self _
    refine wpAny_mono (turn i x T t c u h tk I oI J oJ (by simpa using hx) hT hk'.1 (nodup_join ?_ hk'.2 fun p hp q hq => (hne q hq p hp).symm) F₁ N₁) (fun _ s₂ h₂ => wpAny_mono h₂ (fun f s₃ p => p.toF) fun _ _ e => e) fun _ _ e => e
    have hIJ' : I ≠ J := hIJ
    simp [hIJ']
  · intro c u h tk hk'
    have h9 : K vs.length c ∧ ((Led c).map (·.1)).Nodup := by simpa using hk'
    exact done c u h tk h9.1 h9.2
/-- a loop over a made list of ints that turns names alone -/
theorem mt_listI {σ : Type} {x : Str} {px : Pos} {l : Addr} {lo : Obj} {nn : Nat} {vs : List Value} {ns : List Int} {rest : List (Addr × Obj)} {m₀ : Str → Option Value} (ps : σ → List (Str × Value)) (K : Nat → σ → Prop) (c₀ : σ)
    (F : Fr h₀ env.locals s.heap m₀) (N : News h₀ env.locals s.heap rest) (hm : (l, lo) ∈ rest) (hc : lo.cls = .type "list") (hd : lo.data = .seq vs.toArray nn) (hh : A.handled = none) (hi : IntsAre vs ns) (hk : ∀ p ∈ ps c₀, m₀ p.1 = some p.2) (hK : K 0 c₀)
    (turn : ∀ (i : Nat) k t c (u : Str → Option Value) h tk I oI, ns[i]? = some k → K i c → (∀ p ∈ rest, @LT.lt Nat _ p.1 I) → Fr h₀ env.locals h (kstB (fun z => if [x].contains z then u z else m₀ z) (ps c)) → News h₀ env.locals h ((I, oI) :: rest) →
      wpAny (model prog w) A (assign (.Name x px) env (.int k t)) (fun _ s₃ => wpAny (model prog w) A (execs body env) (TurnG h₀ env.locals { s with heap := h, toks := tk } Q [(I, oI)] (fun _ => rest) ps [x] m₀ (K (i + 1))) E s₃) E { s with heap := h, toks := tk })
    (done : ∀ c (u : Str → Option Value) h tk, K ns.length c → Fr h₀ env.locals h (kstB (fun z => if [x].contains z then u z else m₀ z) (ps c)) → News h₀ env.locals h rest → Q .next { s with heap := h, toks := tk }) :
    wpAny (model prog w) A (pyIter (.ref l)) (fun it s₂ => TurnsAt prog w A h₀ env (.Name x px) body Q E it s₂) E s := by
  have hT := N _ hm
  have hl : s.heap.IsList l vs.toArray := ⟨lo, hT.1, hc, nn, hd⟩
  have hlt : @LT.lt Nat _ l s.heap.objs.size := Heap.lt_size hT.1
  have hall : ∀ p ∈ rest, @LT.lt Nat _ p.1 s.heap.objs.size := fun p hp => Heap.lt_size (N p hp).1
  have hlen := hi.length
  refine wpAny_pyIter_list hl ?_
  have W := KTurns.ofWalks (target := .Name x px) (Walks.list (prog := prog) (w := w) hh s.heap.objs.size l (Nat.ne_of_lt hlt) vs.toArray).bound (fun i v s Q E st q => wpAny_pure q)
  refine mt_core (tk0 := s.toks) W [s.heap.objs.size] (fun _ => rest) ps [x] K c₀ ?_ (fun b hb => hb) ?_ ?_ ?_ ?_ (F.push _) (fun p hp => ⟨Heap.get?_push_of_some _ (N p hp).1, (N p hp).2⟩) ?_ hk hK ?_ ?_
  · intro hm'
    rcases List.mem_cons.mp hm' with e | hm'
    · exact absurd F.ns.lt (e ▸ Nat.lt_irrefl _)
    · exact hT.2.1 (List.mem_singleton.mp hm').symm
  · intro b hb
    exact ⟨by rw [List.mem_singleton.mp hb]; exact List.mem_cons_self, by rw [List.mem_singleton.mp hb]; exact next_is_new F⟩
  · rintro i h ⟨⟨oi, hoi, _⟩, _⟩
    exact ⟨[(s.heap.objs.size, oi)], rfl, fun p hp => by rw [List.mem_singleton.mp hp]; exact hoi⟩
  · intro b hb
    rcases List.mem_cons.mp hb with rfl | hb
    · exact .inl List.mem_cons_self
    · rw [List.mem_singleton.mp hb]
      exact .inr (.inr ⟨lo, fun c => hm⟩)
  · exact ⟨⟨_, Heap.get?_push_size _ rfl, rfl, rfl⟩, hl.at fun o e => Heap.get?_push_of_some _ e⟩
  · intro p hp hI
    exact absurd (hall p hp) ((List.mem_singleton.mp hI) ▸ Nat.lt_irrefl _)
  · rintro i v c u h tk own hi' hv hk' hown hne F₁ N₁
    obtain ⟨⟨I, oI⟩, rfl⟩ := mt_one hown
    have eI : I = s.heap.objs.size := by have := hown; simpa using this
    have hv' : vs[i]? = some v := by simpa using hv.2
    obtain ⟨k, t, e, hk⟩ := hi.at i v hv'
    subst e
    have hx : ∀ p ∈ rest, @LT.lt Nat _ p.1 I := fun p hp => by rw [eI]; exact hall p hp
    refine wpAny_mono (turn i k t c u h tk I oI hk hk' hx F₁ N₁) (fun _ s₂ h₂ => wpAny_mono h₂ (fun f s₃ p => p.toF fun c' p hp q hq => ?_) fun _ _ e => e) fun _ _ e => e
    rw [List.mem_singleton.mp hq]
    exact Nat.ne_of_lt (hx p hp)
  · intro c u h tk hk' F₁ N₁
    rw [List.size_toArray, hlen] at hk'
    exact done c u h tk hk' F₁ N₁
theorem pop0 {L D : Addr} {m : Str → Option Value} {news news' : List (Addr × Obj)} {n : Nat} {y : Value} {r : List Value} {u : Tok} {Q : Value → Shared → Prop} (F : Fr h₀ L s.heap m) (N : News h₀ L s.heap news) (U : Upd D (listOf (y :: r).toArray n) (listOf r.toArray (n + 1)) news news')
    (hz : r.length < 1000) (h : ∀ h', Fr h₀ L h' m → News h₀ L h' news' → Q y { s with heap := h' }) : wpAny (model prog w) A (call (.builtin "list.pop") [.ref D, .int 0 u]) Q E s :=
  kl_popAt (p := []) (q := r) (y := y) (k := 0) F N rfl (by simp [seqIndex?]) (by simp [kl_cut]) U (by simp only [List.length_cons]; rw [PySem.sizeLine_eq]; lia) h
end
section
variable {prog : Program} {w : World} {A : Around} {h₀ : Heap} {L : Addr} {m : Str → Option Value} {env : Env} {elt : PySem.Expr} {x : Str} {scope : Scope} {cl : List (Str × Addr)} {s : Shared} {S : List (Addr × Obj) → Prop} {P : Nat → Value → Prop} {Fin : List Value → List (Addr × Obj) → Prop} {news : List (Addr × Obj)}
/-- a comprehension without a test, over ints, its items ints -/
theorem restI {n : Nat} {ks : List Int} (f : Int → Int) (hks : ks.length = n) (hP : ∀ i v, i < n → P i v → ∃ k t, ks[i]? = some k ∧ v = .int k t) (hS : S news)
    (elem : ∀ k t I oI C oC D m₂ ys h tk (E' : Value → Shared → Prop), k ∈ ks → LCg.NsObj oC m₂ → m₂ x = some (.int k t) → Fr h₀ L h m → News h₀ L h ((I, oI) :: (C, oC) :: (D, LCg.lst ys) :: news) → LCg.Off3 I C D news → ((@Ne Nat I C) ∧ (@Ne Nat I D) ∧ (@Ne Nat C D)) →
      wpAny (model prog w) A (eval elt (compEnvC scope cl C env)) (ElemEnd h₀ L m ((I, oI) :: (C, oC) :: (D, LCg.lst ys) :: news) { s with heap := h, toks := tk } (fun y => ∃ t, y = .int (f k) t)) E' { s with heap := h, toks := tk })
    (fin : ∀ ys, IntsAre ys (ks.map f) → Fin ys news) : LCg.CompRest prog w A h₀ L m env elt x scope cl s S P Fin n 0 [] news := by
  have key : ∀ (j i : Nat) (ys : List Value), i + j = n → IntsAre ys ((ks.take i).map f) → LCg.CompRest prog w A h₀ L m env elt x scope cl s S P Fin j i ys news := by
    intro j
    induction j with
    | zero =>
      intro i ys hi hy
      have e : i = ks.length := by lia
      subst e
      rw [List.take_length] at hy
      exact LCg.CompRest.zero (fin ys hy)
    | succ j ih =>
      intro i ys hi hy
      refine LCg.CompRest.succ ?_
      intro v I oI C oC D m₂ h tk E' hv hC hx F N off ne
      obtain ⟨k, t, hk, hv'⟩ := hP i v (by lia) hv
      rw [hv'] at hx
      refine wpAny_mono (elem k t I oI C oC D m₂ ys h tk E' (List.mem_of_getElem? hk) hC hx F N off ne) (fun y s₂ hq => ?_) fun _ _ e => e
      obtain ⟨⟨t', hy'⟩, h', tk', e, F', N'⟩ := hq
      subst e
      refine ⟨h', tk', news, rfl, F', N', off, hS, ?_⟩
      refine ih (i + 1) _ (by lia) ?_
      rw [hy', List.take_add_one, hk, List.map_append]
      exact IntsAre.append hy (.cons _ _ .nil)
  exact key n 0 [] (by lia) (by simp only [List.take_zero, List.map_nil]; exact .nil)
end
def gcbsL : List Str := [Str.ofString "Other", Str.ofString "Extend", Str.ofString "ZWJ", Str.ofString "SpacingMark", Str.ofString "Prepend", Str.ofString "Regional_Indicator", Str.ofString "L", Str.ofString "V", Str.ofString "T", Str.ofString "LV", Str.ofString "LVT", Str.ofString "Other"]
def incbsL : List Str := [Str.ofString "None", Str.ofString "Consonant", Str.ofString "Extend", Str.ofString "Linker"]
theorem c_gcbs : ∀ (w : World), CtrM w 297 1 [] [] (fun _ => True) (StrNew gcbsL) := by
  intro w
  k_dflt (refine' CtrM.bodyX Mono.top (binds := []) ?ho ?hcd ?hbind ?hloc ?h ?hcell ?hd1 ?hco ?hgen ?hk; (case ho => k_is); (case hcd => k_is); (case hbind => first | exact fun _ _ => BindsTo.of_eq rfl | exact fun _ X' => binds_K X' rfl (by k_is) rfl rfl rfl); (case hloc => exact locs rfl); (case hcell => decide); (case hd1 => decide); (case hco => exact rfl); (case hgen => exact rfl); (case hk => exact rfl))
  intro kx
  revert w kx
  refine seal2 (dW, dCx) ?_
  generalize sl2_0 _ _ = w, sl2_1 _ _ = kx
  w_top off
  intro B F N X T hdp hun hP
  have _ : Dm := Dm.mk
  have _ : Rim := Rim.mk
  k_with_none
  k_with "k0" => (k_here; (with_reducible show wpAny _ _ (callWith _ (Value.ref _) _ (backTo _ (starEach [] _)) []) _ _ _); k_dflt (refine' callWith_K0 ?k1_q9 ?k2_q9 ?_; (case k1_q9 => first | with_reducible assumption | exact Frag.In.keeps (by with_reducible assumption) (Fr.keep (by with_reducible assumption))); (case k2_q9 => k_is); k_whole))
  k_with "fold" => (k_fold; (with_reducible rename Dm => d9); revert d9; revert ek; revert qk; intro qk ek _)
  k_with "seal0" =>
    (with_reducible show wpAny _ _ (execs (_ :: _) _) _ _ _)
    (try k_extra "preseal")
    (fail_if_success (have y9 := ‹_›; (with_reducible have y8 : Rim := y9)))
    (repeat ((fail_if_success (have y9 := ‹_›; (with_reducible have y8 : Rim := y9))); first | ((fail_if_success (have y9 := ‹_›; have y8 : (_ : Prop) := y9)); clear (‹_›)) | revert (‹_›)))
    (repeat (first
      | ((with_reducible refine seal2 dHT ?_); (generalize sl2_0 _ _ = z8, sl2_1 _ _ = z7))
      | ((with_reducible refine seal1 dHp ?_); (generalize eps _ _ = z8))
      | ((with_reducible refine seal1 (0 : Nat) ?_); (generalize eps _ _ = z8))
      | ((with_reducible refine seal1 default ?_); (generalize eps _ _ = z8))
      | (with_reducible intro _)))
    ((with_reducible rename Rim => m9); revert m9; intro _)

  ((try ((with_reducible rename Rim => m9); revert m9; intro _)); k_steps)
  all_goals (try dsimp only)
  refine' DoneM.mk (mu' := [(_, { cls := .type "list", data := .seq (List.toArray _) _ })]) (by assumption) (by assumption) ?hs ⟨_, _, _, rfl, rfl, ?hi⟩
  case hs => exact (List.forall_mem_cons.mpr ⟨by k_mem, List.forall_mem_nil _⟩)
  case hi => repeat constructor
theorem c_incbs : ∀ (w : World), CtrM w 304 1 [] [] (fun _ => True) (StrNew incbsL) := by
  intro w
  k_dflt (refine' CtrM.bodyX Mono.top (binds := []) ?ho ?hcd ?hbind ?hloc ?h ?hcell ?hd1 ?hco ?hgen ?hk; (case ho => k_is); (case hcd => k_is); (case hbind => first | exact fun _ _ => BindsTo.of_eq rfl | exact fun _ X' => binds_K X' rfl (by k_is) rfl rfl rfl); (case hloc => exact locs rfl); (case hcell => decide); (case hd1 => decide); (case hco => exact rfl); (case hgen => exact rfl); (case hk => exact rfl))
  intro kx
  revert w kx
  refine seal2 (dW, dCx) ?_
  generalize sl2_0 _ _ = w, sl2_1 _ _ = kx
  intro B F N X T hdp hun hP
  have _ : Dm := Dm.mk
  have _ : Rim := Rim.mk
  k_with_none
  k_with "k0" => (k_here; (with_reducible show wpAny _ _ (callWith _ (Value.ref _) _ (backTo _ (starEach [] _)) []) _ _ _); k_dflt (refine' callWith_K0 ?k1_q9 ?k2_q9 ?_; (case k1_q9 => first | with_reducible assumption | exact Frag.In.keeps (by with_reducible assumption) (Fr.keep (by with_reducible assumption))); (case k2_q9 => k_is); k_whole))
  k_with "fold" => (k_fold; (with_reducible rename Dm => d9); revert d9; revert ek; revert qk; intro qk ek _)
  k_with "seal0" =>
    (with_reducible show wpAny _ _ (execs (_ :: _) _) _ _ _)
    (try k_extra "preseal")
    (fail_if_success (have y9 := ‹_›; (with_reducible have y8 : Rim := y9)))
    (repeat ((fail_if_success (have y9 := ‹_›; (with_reducible have y8 : Rim := y9))); first | ((fail_if_success (have y9 := ‹_›; have y8 : (_ : Prop) := y9)); clear (‹_›)) | revert (‹_›)))
    (repeat (first
      | ((with_reducible refine seal2 dHT ?_); (generalize sl2_0 _ _ = z8, sl2_1 _ _ = z7))
      | ((with_reducible refine seal1 dHp ?_); (generalize eps _ _ = z8))
      | ((with_reducible refine seal1 (0 : Nat) ?_); (generalize eps _ _ = z8))
      | ((with_reducible refine seal1 default ?_); (generalize eps _ _ = z8))
      | (with_reducible intro _)))
    ((with_reducible rename Rim => m9); revert m9; intro _)

  ((try ((with_reducible rename Rim => m9); revert m9; intro _)); k_steps)
  all_goals (try dsimp only)
  refine' DoneM.mk (mu' := [(_, { cls := .type "list", data := .seq (List.toArray _) _ })]) (by assumption) (by assumption) ?hs ⟨_, _, _, rfl, rfl, ?hi⟩
  case hs => exact (List.forall_mem_cons.mpr ⟨by k_mem, List.forall_mem_nil _⟩)
  case hi => repeat constructor
def dkL (dk la : Addr) (od : Obj) (vs : List Value) (n : Nat) : List (Addr × Obj) := [(dk, od), (la, W.listOf vs.toArray n)]
def Deck (w : World) (la : Addr) (od : Obj) (vs : List Value) : Prop := ∃ m tm xs, od.IsDictOf (PySem.strKind PySem.Challenge.rw_pq1305_01.row.prog w) [(Str.ofString "left", .ref la), (Str.ofString "mixed", .int m tm)] ∧ 0 ≤ m ∧ m < 1000003 ∧ IntsAre vs xs ∧ (∀ x ∈ xs, 0 ≤ x ∧ x < 1000003) ∧ xs.length ≤ 48
def DrawR (w : World) (dk la : Addr) (many : Int) (v : Value) (mu : List (Addr × Obj)) : Prop := (∃ r t, v = .int r t ∧ 0 ≤ r ∧ r < many) ∧ ∃ od vs n, mu = dkL dk la od vs n ∧ Deck w la od vs
theorem fmod_in {a b : Int} (h : 0 < b) : 0 ≤ a.fmod b ∧ a.fmod b < b := by
  rw [Int.fmod_eq_emod_of_nonneg _ (Int.le_of_lt h)]
  exact ⟨Int.emod_nonneg _ (by lia), Int.emod_lt_of_pos _ h⟩
local macro_rules | `(tactic| walk_at "call builtin:list.pop") => `(tactic| k_extra "@call builtin:list.pop")
theorem c_draw1 : ∀ (w : World) (dk : Addr) (la : Addr) (od : Obj) (k : Int) (tk : Tok) (r : List Value) (n : Nat) (m : Int) (tm : Tok) (xs : List Int) (many : Int) (t : Tok), (@Ne Nat dk la) → ((dk == sysModules) = false) → (od.IsDictOf (PySem.strKind PySem.Challenge.rw_pq1305_01.row.prog w) [(Str.ofString "left", .ref la), (Str.ofString "mixed", .int m tm)]) → (0 ≤ m) → (m < 1000003) → (IntsAre r xs) → (∀ x ∈ xs, 0 ≤ x ∧ x < 1000003) → (xs.length ≤ 48) → (0 ≤ k) → (k < 1000003) → (0 < many) → (many ≤ 100) → CtrM w 331 1 [.ref dk, .int many t] [(dk, od), (la, W.listOf (Value.int k tk :: r).toArray n)] (fun _ => True) (DrawR w dk la many) := by
  intro w dk la od k tk r n m tm xs many t hne lo hd m0 m1 hi hx hl k0 k1 h0 h1
  k_dflt (refine' CtrM.bodyX Mono.top (binds := [(Str.ofString "deck", .ref dk), (Str.ofString "many", .int many t)]) ?ho ?hcd ?hbind ?hloc ?h ?hcell ?hd1 ?hco ?hgen ?hk; (case ho => k_is); (case hcd => k_is); (case hbind => first | exact fun _ _ => BindsTo.of_eq rfl | exact fun _ X' => binds_K X' rfl (by k_is) rfl rfl rfl); (case hloc => exact locs rfl); (case hcell => decide); (case hd1 => decide); (case hco => exact rfl); (case hgen => exact rfl); (case hk => exact rfl))
  intro kx
  revert hne lo hd m0 m1 hi hx hl k0 k1 h0 h1
  revert w dk la od k tk r n m tm xs many t kx
  refine seal8 (dW, default, default, default, default, default, default, default) ?_
  generalize sl8_0 _ _ = w, sl8_1 _ _ = dk, sl8_2 _ _ = la, sl8_3 _ _ = od, sl8_4 _ _ = k, sl8_5 _ _ = tk, sl8_6 _ _ = r, sl8_7 _ _ = n
  refine seal5 (default, default, default, default, default) ?_
  generalize sl5_0 _ _ = m, sl5_1 _ _ = tm, sl5_2 _ _ = xs, sl5_3 _ _ = many, sl5_4 _ _ = t
  refine seal1 (dCx) ?_
  generalize eps _ _ = kx
  intro hne lo hd m0 m1 hi hx hl k0 k1 h0 h1
  intro B F N X T hdp hun hP
  have _ : Dm := Dm.mk
  have _ : Rim := Rim.mk
  k_with_none
  k_with "@compareOp NotEq ref ref" => ((k_here; k_dflt (refine' ne_nilL ?k1_q9 ?k2_q9 ?k3_q9 ?_; (case k1_q9 => is_list); (case k2_q9 => is_list); (case k3_q9 => ktr_units))))
  k_with "@subscriptTail" => ((k_here; (with_reducible show wpAny _ _ (subscriptTail _ _ (Value.ref _) (Value.str _ _)) _ _ _); k_dflt (refine item_any (by k_asm) (by k_mem) (by assumption) (by rfl) ?_)))
  k_with "@call builtin:list.pop" => ((k_here; (with_reducible show wpAny _ _ (call (Value.builtin _) [Value.ref _, Value.int 0 _]) _ _ _); k_dflt (refine' pop0 ?F_q9 ?N_q9 ?U_q9 ?z_q9 ?_; (case F_q9 => k_asm); (case N_q9 => k_asm); (case U_q9 => k_upd); (case z_q9 => lia)); (intro h' F' N'; (try dsimp only [List.nil_append, List.cons_append] at N'))); (all_goals (try ((with_reducible show wpAny _ _ _ _ _ _); (try revert h'); (try revert F'); (try revert N'); intros))))
  k_with "k0" => (k_here; (with_reducible show wpAny _ _ (callWith _ (Value.ref _) _ (backTo _ (starEach [] _)) []) _ _ _); k_dflt (refine' callWith_K0 ?k1_q9 ?k2_q9 ?_; (case k1_q9 => first | with_reducible assumption | exact Frag.In.keeps (by with_reducible assumption) (Fr.keep (by with_reducible assumption))); (case k2_q9 => k_is); k_whole))
  k_with "fold" => (k_fold; (with_reducible rename Dm => d9); revert d9; revert ek; revert qk; intro qk ek _)
  k_with "seal0" =>
    (with_reducible show wpAny _ _ (execs (_ :: _) _) _ _ _)
    (try k_extra "preseal")
    (fail_if_success (have y9 := ‹_›; (with_reducible have y8 : Rim := y9)))
    (repeat ((fail_if_success (have y9 := ‹_›; (with_reducible have y8 : Rim := y9))); first | ((fail_if_success (have y9 := ‹_›; have y8 : (_ : Prop) := y9)); clear (‹_›)) | revert (‹_›)))
    (repeat (first
      | ((with_reducible refine seal2 dHT ?_); (generalize sl2_0 _ _ = z8, sl2_1 _ _ = z7))
      | ((with_reducible refine seal1 dHp ?_); (generalize eps _ _ = z8))
      | ((with_reducible refine seal1 (0 : Nat) ?_); (generalize eps _ _ = z8))
      | ((with_reducible refine seal1 default ?_); (generalize eps _ _ = z8))
      | (with_reducible intro _)))
    ((with_reducible rename Rim => m9); revert m9; intro _)

  have hlen := hi.length
  ((try ((with_reducible rename Rim => m9); revert m9; intro _)); k_steps)
  all_goals (try dsimp only)
  all_goals first
    | exact absurd (by assumption) (Nat.succ_ne_zero _)
    | (refine' DoneM.mk (mu' := dkL dk la od r (n + 1)) (by assumption) (by assumption) ?hs ⟨⟨_, _, rfl, fmod_in h0⟩, _, _, _, rfl, _, _, _, hd, m0, m1, hi, hx, hl⟩; (case hs => exact (List.forall_mem_cons.mpr ⟨by k_mem, List.forall_mem_cons.mpr ⟨by k_mem, List.forall_mem_nil _⟩⟩)))
theorem c_draw0 : ∀ (w : World) (dk : Addr) (la : Addr) (od : Obj) (n : Nat) (m : Int) (tm : Tok) (many : Int) (t : Tok), (@Ne Nat dk la) → ((dk == sysModules) = false) → (od.IsDictOf (PySem.strKind PySem.Challenge.rw_pq1305_01.row.prog w) [(Str.ofString "left", .ref la), (Str.ofString "mixed", .int m tm)]) → (0 ≤ m) → (m < 1000003) → (0 < many) → (many ≤ 100) → CtrM w 331 1 [.ref dk, .int many t] [(dk, od), (la, W.listOf ([] : List Value).toArray n)] (fun _ => True) (DrawR w dk la many) := by
  intro w dk la od n m tm many t hne lo hd m0 m1 h0 h1
  k_dflt (refine' CtrM.bodyX Mono.top (binds := [(Str.ofString "deck", .ref dk), (Str.ofString "many", .int many t)]) ?ho ?hcd ?hbind ?hloc ?h ?hcell ?hd1 ?hco ?hgen ?hk; (case ho => k_is); (case hcd => k_is); (case hbind => first | exact fun _ _ => BindsTo.of_eq rfl | exact fun _ X' => binds_K X' rfl (by k_is) rfl rfl rfl); (case hloc => exact locs rfl); (case hcell => decide); (case hd1 => decide); (case hco => exact rfl); (case hgen => exact rfl); (case hk => exact rfl))
  intro kx
  revert hne lo hd m0 m1 h0 h1
  revert w dk la od n m tm many t kx
  refine seal8 (dW, default, default, default, default, default, default, default) ?_
  generalize sl8_0 _ _ = w, sl8_1 _ _ = dk, sl8_2 _ _ = la, sl8_3 _ _ = od, sl8_4 _ _ = n, sl8_5 _ _ = m, sl8_6 _ _ = tm, sl8_7 _ _ = many
  refine seal2 (default, dCx) ?_
  generalize sl2_0 _ _ = t, sl2_1 _ _ = kx
  intro hne lo hd m0 m1 h0 h1
  intro B F N X T hdp hun hP
  have _ : Dm := Dm.mk
  have _ : Rim := Rim.mk
  k_with_none
  k_with "@compareOp NotEq ref ref" => ((k_here; k_dflt (refine' ne_nilL ?k1_q9 ?k2_q9 ?k3_q9 ?_; (case k1_q9 => is_list); (case k2_q9 => is_list); (case k3_q9 => ktr_units))))
  k_with "@subscriptTail" => ((k_here; (with_reducible show wpAny _ _ (subscriptTail _ _ (Value.ref _) (Value.str _ _)) _ _ _); k_dflt (refine item_any (by k_asm) (by k_mem) (by assumption) (by rfl) ?_)))
  k_with "k0" => (k_here; (with_reducible show wpAny _ _ (callWith _ (Value.ref _) _ (backTo _ (starEach [] _)) []) _ _ _); k_dflt (refine' callWith_K0 ?k1_q9 ?k2_q9 ?_; (case k1_q9 => first | with_reducible assumption | exact Frag.In.keeps (by with_reducible assumption) (Fr.keep (by with_reducible assumption))); (case k2_q9 => k_is); k_whole))
  k_with "fold" => (k_fold; (with_reducible rename Dm => d9); revert d9; revert ek; revert qk; intro qk ek _)
  k_with "seal0" =>
    (with_reducible show wpAny _ _ (execs (_ :: _) _) _ _ _)
    (try k_extra "preseal")
    (fail_if_success (have y9 := ‹_›; (with_reducible have y8 : Rim := y9)))
    (repeat ((fail_if_success (have y9 := ‹_›; (with_reducible have y8 : Rim := y9))); first | ((fail_if_success (have y9 := ‹_›; have y8 : (_ : Prop) := y9)); clear (‹_›)) | revert (‹_›)))
    (repeat (first
      | ((with_reducible refine seal2 dHT ?_); (generalize sl2_0 _ _ = z8, sl2_1 _ _ = z7))
      | ((with_reducible refine seal1 dHp ?_); (generalize eps _ _ = z8))
      | ((with_reducible refine seal1 (0 : Nat) ?_); (generalize eps _ _ = z8))
      | ((with_reducible refine seal1 default ?_); (generalize eps _ _ = z8))
      | (with_reducible intro _)))
    ((with_reducible rename Rim => m9); revert m9; intro _)

  ((try ((with_reducible rename Rim => m9); revert m9; intro _)); k_steps)
  all_goals (try dsimp only)
  rename_i hd9
  k_dflt (change Obj.IsDictOf _ _ [(Str.ofString "left", Value.ref la), (Str.ofString "mixed", Value.int _ _)] at hd9)
  have h9 := fmod_in (a := m * 4801 + 23) (b := 1000003) (by decide)
  refine' DoneM.mk (mu' := dkL dk la _ [] n) (by assumption) (by assumption) ?hs ⟨⟨_, _, rfl, fmod_in h0⟩, _, _, _, rfl, _, _, [], hd9, h9.1, h9.2, .nil, (fun _ h => nomatch h), by decide⟩
  case hs => exact (List.forall_mem_cons.mpr ⟨by k_mem, List.forall_mem_cons.mpr ⟨by k_mem, List.forall_mem_nil _⟩⟩)
theorem c_draw (w : World) (dk la : Addr) (od : Obj) (vs : List Value) (n : Nat) (many : Int) (t : Tok) (hne : @Ne Nat dk la) (lo : (dk == sysModules) = false) (hD : Deck w la od vs) (h0 : 0 < many) (h1 : many ≤ 100) : CtrM w 331 1 [.ref dk, .int many t] (dkL dk la od vs n) (fun _ => True) (DrawR w dk la many) := by
  obtain ⟨m, tm, xs, hd, m0, m1, hi, hx, hl⟩ := hD
  cases hi with
  | nil => exact c_draw0 w dk la od n m tm many t hne lo hd m0 m1 h0 h1
  | cons k tk r =>
    have := hx k (.head _)
    refine c_draw1 w dk la od k tk _ n m tm _ many t hne lo hd m0 m1 r (fun x h => hx x (.tail _ h)) ?_ this.1 this.2 h0 h1
    simp only [List.length_cons] at hl
    lia
inductive SgsIn (tl : List (Addr × Obj)) : List Value → List Sign → Prop
  | nil : SgsIn tl [] []
  | cons {a : Addr} {o : Obj} {n : Nat} {t1 t2 : Tok} {s : Sign} {vs : List Value} {row : List Sign} : (a, o) ∈ tl → o.cls = .type "tuple" → o.data = .seq #[.str s.g t1, .str s.i t2, .bool s.e] n → s.g.length ≤ 100 → SgsIn tl vs row → SgsIn tl (.ref a :: vs) (s :: row)
def plainL : List Sign := [⟨Str.ofString "Other", Str.ofString "None", false⟩, ⟨Str.ofString "Other", Str.ofString "None", false⟩, ⟨Str.ofString "CR", Str.ofString "None", false⟩, ⟨Str.ofString "LF", Str.ofString "None", false⟩, ⟨Str.ofString "Control", Str.ofString "None", false⟩, ⟨Str.ofString "ZWJ", Str.ofString "Extend", false⟩, ⟨Str.ofString "Other", Str.ofString "Consonant", false⟩, ⟨Str.ofString "Other", Str.ofString "None", true⟩]
def PlainR (v : Value) (mu : List (Addr × Obj)) : Prop := ∃ a vs n tl, v = .ref a ∧ mu = (a, W.listOf vs.toArray n) :: tl ∧ SgsIn tl vs plainL ∧ ((mu).map (·.1)).Nodup
theorem c_plain : ∀ (w : World), CtrM w 311 1 [] [] (fun _ => True) PlainR := by
  intro w
  k_dflt (refine' CtrM.bodyX Mono.top (binds := []) ?ho ?hcd ?hbind ?hloc ?h ?hcell ?hd1 ?hco ?hgen ?hk; (case ho => k_is); (case hcd => k_is); (case hbind => first | exact fun _ _ => BindsTo.of_eq rfl | exact fun _ X' => binds_K X' rfl (by k_is) rfl rfl rfl); (case hloc => exact locs rfl); (case hcell => decide); (case hd1 => decide); (case hco => exact rfl); (case hgen => exact rfl); (case hk => exact rfl))
  intro kx
  revert w kx
  refine seal2 (dW, dCx) ?_
  generalize sl2_0 _ _ = w, sl2_1 _ _ = kx
  intro B F N X T hdp hun hP
  have _ : Dm := Dm.mk
  have _ : Rim := Rim.mk
  k_with_none
  k_with "k0" => (k_here; (with_reducible show wpAny _ _ (callWith _ (Value.ref _) _ (backTo _ (starEach [] _)) []) _ _ _); k_dflt (refine' callWith_K0 ?k1_q9 ?k2_q9 ?_; (case k1_q9 => first | with_reducible assumption | exact Frag.In.keeps (by with_reducible assumption) (Fr.keep (by with_reducible assumption))); (case k2_q9 => k_is); k_whole))
  k_with "fold" => (k_fold; (with_reducible rename Dm => d9); revert d9; revert ek; revert qk; intro qk ek _)
  k_with "seal0" =>
    (with_reducible show wpAny _ _ (execs (_ :: _) _) _ _ _)
    (try k_extra "preseal")
    (fail_if_success (have y9 := ‹_›; (with_reducible have y8 : Rim := y9)))
    (repeat ((fail_if_success (have y9 := ‹_›; (with_reducible have y8 : Rim := y9))); first | ((fail_if_success (have y9 := ‹_›; have y8 : (_ : Prop) := y9)); clear (‹_›)) | revert (‹_›)))
    (repeat (first
      | ((with_reducible refine seal2 dHT ?_); (generalize sl2_0 _ _ = z8, sl2_1 _ _ = z7))
      | ((with_reducible refine seal1 dHp ?_); (generalize eps _ _ = z8))
      | ((with_reducible refine seal1 (0 : Nat) ?_); (generalize eps _ _ = z8))
      | ((with_reducible refine seal1 default ?_); (generalize eps _ _ = z8))
      | (with_reducible intro _)))
    ((with_reducible rename Rim => m9); revert m9; intro _)

  ((try ((with_reducible rename Rim => m9); revert m9; intro _)); k_steps)
  all_goals (try dsimp only)
  refine' DoneM.mk (by assumption) (by assumption) (fun p hp => hp) ⟨_, _, _, _, rfl, rfl, ?hs, ?nd⟩
  case hs =>
    repeat (refine' SgsIn.cons (n := 0) ?m ?c ?d ?l ?_; (case m => (repeat (first | exact List.Mem.head _ | apply List.Mem.tail))); (case c => exact rfl); (case d => exact rfl); (case l => decide))
    exact SgsIn.nil
  case nd =>
    simp only [List.map_cons, List.map_nil, List.nodup_cons, List.mem_cons, List.not_mem_nil, or_false, not_or, List.nodup_nil, and_true, not_false_eq_true]
    repeat' (first | apply And.intro | (refine neN ?_; lia))
theorem fold_in : ∀ (xs : List Int) (m : Int), 0 ≤ m ∧ m < 1000003 → 0 ≤ List.foldl (fun a n => (a * 29 + n + 3).fmod 1000003) m xs ∧ List.foldl (fun a n => (a * 29 + n + 3).fmod 1000003) m xs < 1000003
  | [], _, h => h
  | x :: r, m, _ => fold_in r _ (fmod_in (by decide))
theorem map_in (xs : List Int) : ∀ y ∈ xs.map (fun k => k.fmod 1000003), 0 ≤ y ∧ y < 1000003 := fun y h => by
  obtain ⟨x, _, rfl⟩ := List.mem_map.mp h
  exact fmod_in (by decide)
theorem c_deck : ∀ (w : World) (sa : Addr) (vs : List Value) (ns : List Int), (IntsAre vs ns) → (ns.length ≤ 63) → CtrM w 324 2 [.ref sa] [] (fun h => h.IsList sa vs.toArray) (fun v mu => ∃ dk la od us n, v = .ref dk ∧ mu = dkL dk la od us n ∧ Deck w la od us ∧ @Ne Nat dk la ∧ (dk == sysModules) = false) := by
  intro w sa vs ns hi hl
  k_dflt (refine' CtrM.bodyX (fun _ _ st h => stays_list st h) (binds := [(Str.ofString "script", .ref sa)]) ?ho ?hcd ?hbind ?hloc ?h ?hcell ?hd1 ?hco ?hgen ?hk; (case ho => k_is); (case hcd => k_is); (case hbind => first | exact fun _ _ => BindsTo.of_eq rfl | exact fun _ X' => binds_K X' rfl (by k_is) rfl rfl rfl); (case hloc => exact locs rfl); (case hcell => decide); (case hd1 => decide); (case hco => exact rfl); (case hgen => exact rfl); (case hk => exact rfl))
  intro kx
  revert hi hl
  revert w sa vs ns kx
  refine seal5 (dW, default, default, default, dCx) ?_
  generalize sl5_0 _ _ = w, sl5_1 _ _ = sa, sl5_2 _ _ = vs, sl5_3 _ _ = ns, sl5_4 _ _ = kx
  intro hi hl
  intro B F N X T hdp hun hP
  have _ : Dm := Dm.mk
  have _ : Rim := Rim.mk
  k_with_none
  k_with "@eval ListComp" => ((k_here; (with_reducible show wpAny _ _ (eval (Expr.ListComp _ [{ target := _, iter := _, ifs := [], is_async := _ }] _ _) _) _ _ _); k_dflt (refine LCg.ListComp_U (F₀ := by k_asm) (by with_unfolding_all rfl) (by decide) (by rfl) (by decide) (by rfl) ?_)))
  k_with "k0" => (k_here; (with_reducible show wpAny _ _ (callWith _ (Value.ref _) _ (backTo _ (starEach [] _)) []) _ _ _); k_dflt (refine' callWith_K0 ?k1_q9 ?k2_q9 ?_; (case k1_q9 => first | with_reducible assumption | exact Frag.In.keeps (by with_reducible assumption) (Fr.keep (by with_reducible assumption))); (case k2_q9 => k_is); k_whole))
  k_with "fold" => (k_fold; (with_reducible rename Dm => d9); revert d9; revert ek; revert qk; intro qk ek _)
  k_with "seal0" =>
    (with_reducible show wpAny _ _ (execs (_ :: _) _) _ _ _)
    (try k_extra "preseal")
    (fail_if_success (have y9 := ‹_›; (with_reducible have y8 : Rim := y9)))
    (repeat ((fail_if_success (have y9 := ‹_›; (with_reducible have y8 : Rim := y9))); first | ((fail_if_success (have y9 := ‹_›; have y8 : (_ : Prop) := y9)); clear (‹_›)) | revert (‹_›)))
    (repeat (first
      | ((with_reducible refine seal2 dHT ?_); (generalize sl2_0 _ _ = z8, sl2_1 _ _ = z7))
      | ((with_reducible refine seal1 dHp ?_); (generalize eps _ _ = z8))
      | ((with_reducible refine seal1 (0 : Nat) ?_); (generalize eps _ _ = z8))
      | ((with_reducible refine seal1 default ?_); (generalize eps _ _ = z8))
      | (with_reducible intro _)))
    ((with_reducible rename Rim => m9); revert m9; intro _)

  have hlen := hi.length
  ((try ((with_reducible rename Rim => m9); revert m9; intro _)); k_steps)
  all_goals (try dsimp only)
  rename_i hd9 l9
  rename (IntsAre ys _) => hy9
  k_dflt (change Obj.IsDictOf _ _ [(Str.ofString "left", Value.ref _), (Str.ofString "mixed", Value.int _ _)] at hd9)
  have h9 := fold_in (List.map (fun k' => k'.fmod 1000003) (List.take 48 ns)) 4343 ⟨by decide, by decide⟩
  refine' DoneM.mk (mu' := dkL _ _ _ ys _) (by assumption) (by assumption) ?hs ⟨_, _, _, _, _, rfl, rfl, ⟨_, _, _, hd9, h9.1, h9.2, hy9, map_in _, ?hl⟩, ?ne, by assumption⟩
  case hs => exact (List.forall_mem_cons.mpr ⟨by k_mem, List.forall_mem_cons.mpr ⟨by k_mem, List.forall_mem_nil _⟩⟩)
  case hl =>
    rw [List.length_map, List.length_take]
    lia
  case ne => exact Nat.ne_of_gt l9.2.1
def sg (D : Db) (c : Int) : Sign := ⟨D.g c, D.i c, D.e c⟩
def rowOf (D : Db) (tx : List Int) : List Sign := tx.map (sg D)
theorem rowOf_len {D : Db} {tx : List Int} : (rowOf D tx).length = tx.length := List.length_map _
theorem row_get {D : Db} {tx : List Int} {k : Nat} (h : k < tx.length) : (rowOf D tx).getD k s0 = sg D (tx.getD k 0) := by
  unfold rowOf
  rw [List.getD_eq_getElem?_getD, List.getD_eq_getElem?_getD, List.getElem?_map, List.getElem?_eq_getElem h]
  rfl
theorem row_g {D : Db} {tx : List Int} {k : Nat} (h : k < tx.length) : ((rowOf D tx).getD k s0).g = D.g (tx.getD k 0) := by rw [row_get h]; rfl
theorem row_i {D : Db} {tx : List Int} {k : Nat} (h : k < tx.length) : ((rowOf D tx).getD k s0).i = D.i (tx.getD k 0) := by rw [row_get h]; rfl
theorem row_e {D : Db} {tx : List Int} {k : Nat} (h : k < tx.length) : ((rowOf D tx).getD k s0).e = D.e (tx.getD k 0) := by rw [row_get h]; rfl
def kindsL : List Str := [Str.ofString "Other", Str.ofString "Extend", Str.ofString "ZWJ", Str.ofString "SpacingMark", Str.ofString "Prepend", Str.ofString "Regional_Indicator", Str.ofString "L", Str.ofString "V", Str.ofString "T", Str.ofString "LV", Str.ofString "LVT", Str.ofString "CR", Str.ofString "LF", Str.ofString "Control"]
/-- what is asked of the signs' kinds -/
structure Kinds (D : Db) (tx : List Int) : Prop where
  g : ∀ k, k < tx.length → D.g (tx.getD k 0) ∈ kindsL
theorem joins_law : ∀ l ∈ kindsL, ∀ r ∈ kindsL, (joinsL.any fun x => x == l ++ Str.ofString " " ++ r) = joins l r := by decide +kernel
theorem cons_ne_joint {x : Str} (h : [Str.ofString "Extend", Str.ofString "Linker"].any (fun y => y == x) = true) : (x == Str.ofString "Consonant") = false := by
  simp only [List.any_cons, List.any_nil, Bool.or_false, Bool.or_eq_true, beq_iff_eq] at h
  rcases h with rfl | rfl <;> decide +kernel
theorem conjB_law {D : Db} {tx : List Int} : ∀ (k : Nat) (l : Bool), k ≤ tx.length → conjB D tx k l = ((lcB (rowOf D tx) k l).2 && decide ((lcB (rowOf D tx) k l).1 ≥ 0) && (((rowOf D tx).getD (lcB (rowOf D tx) k l).1.toNat s0).i == Str.ofString "Consonant"))
  | 0, l, _ => by
    show false = (l && decide ((-1 : Int) ≥ 0) && _)
    rw [decide_eq_false (by lia)]; simp
  | k + 1, l, h => by
    unfold conjB lcB
    rw [row_i (show k < tx.length by lia)]
    cases hj : [Str.ofString "Extend", Str.ofString "Linker"].any (fun x => x == D.i (tx.getD k 0)) with
    | true =>
      rw [if_neg (by rw [cons_ne_joint hj]; exact Bool.false_ne_true), if_pos rfl, if_pos rfl]
      exact conjB_law k _ (by lia)
    | false =>
      rw [if_neg Bool.false_ne_true, if_neg Bool.false_ne_true]
      dsimp only
      rw [decide_eq_true (by lia : (k : Int) ≥ 0), show ((k : Int)).toNat = k by lia, row_i (show k < tx.length by lia)]
      cases hc : (D.i (tx.getD k 0) == Str.ofString "Consonant") <;> cases l <;> rfl
theorem conj_law {D : Db} {tx : List Int} {i : Int} (h0 : 0 ≤ i) (h : i < tx.length) : isConj D tx i = lawConj (rowOf D tx) i := by
  unfold isConj lawConj
  rw [conjB_law _ _ (by lia), row_i (k := i.toNat) (by lia)]
  simp only [Bool.and_assoc]
theorem picB_law {D : Db} {tx : List Int} : ∀ (k : Nat), k ≤ tx.length → picB D tx k = lpB (rowOf D tx) k
  | 0, _ => rfl
  | k + 1, h => by
    unfold picB lpB
    rw [row_e (show k < tx.length by lia), row_g (show k < tx.length by lia), picB_law k (by lia)]
theorem pic_law {D : Db} {tx : List Int} {i : Int} (h0 : 0 < i) (h : i < tx.length) : isPic D tx i = lawPic (rowOf D tx) i := by
  unfold isPic lawPic
  rw [row_e (by lia), row_g (by lia), picB_law _ (by lia)]
theorem ri_law {D : Db} {tx : List Int} : ∀ (k : Nat), k ≤ tx.length → ri D tx k = riL (rowOf D tx) k
  | 0, _ => rfl
  | k + 1, h => by
    unfold ri riL
    rw [row_g (show k < tx.length by lia), ri_law k (by lia)]
theorem brk_law {D : Db} {tx : List Int} (hk : Kinds D tx) {i : Int} (h0 : 0 ≤ i) (h : i ≤ tx.length) (leg : Bool) : brk D tx i leg = lawBrk (rowOf D tx) i leg := by
  unfold brk lawBrk
  rw [rowOf_len]
  by_cases he : i = 0 ∨ i = tx.length
  · rw [if_pos he, if_pos he]
    cases tx <;> simp
  · rw [if_neg he, if_neg he]
    have i0 : 0 < i := by lia
    have i1 : i < tx.length := by lia
    rw [row_g (show (i - 1).toNat < tx.length by lia), row_g (show i.toNat < tx.length by lia), ← pic_law i0 i1, ← conj_law (by lia) i1, joins_law _ (hk.g _ (by lia)) _ (hk.g _ (by lia)), ← ri_law _ (by lia)]
    generalize hl : D.g (tx.getD (i - 1).toNat 0) = l
    have hr' : isFlag D tx i = ((D.g (tx.getD i.toNat 0) == Str.ofString "Regional_Indicator") && decide (ri D tx i.toNat % 2 = 1)) := rfl
    rw [← hr']
    generalize hr : D.g (tx.getD i.toNat 0) = r
    unfold pairS
    by_cases h1 : (l == Str.ofString "CR") = true ∧ (r == Str.ofString "LF") = true
    · rw [if_pos h1]
      have : [Str.ofString "CR", Str.ofString "LF", Str.ofString "Control"].any (fun x => x == l) = true := by
        rw [eq_of_beq h1.1]; decide +kernel
      rw [if_pos (Or.inl this), h1.1, h1.2]; rfl
    · rw [if_neg h1]
      by_cases h2 : [Str.ofString "CR", Str.ofString "LF", Str.ofString "Control"].any (fun x => x == l) = true ∨ [Str.ofString "CR", Str.ofString "LF", Str.ofString "Control"].any (fun x => x == r) = true
      · rw [if_pos h2, if_pos h2]
        have : ((l == Str.ofString "CR") && (r == Str.ofString "LF")) = false := by
          rw [Bool.eq_false_iff]; intro h; exact h1 (by simpa using h)
        rw [this]; rfl
      · rw [if_neg h2, if_neg h2]
        by_cases h3 : joins l r = true ∨ [Str.ofString "Extend", Str.ofString "ZWJ"].any (fun x => x == r) = true
        · rw [if_pos h3]
          cases leg <;> rcases h3 with h3 | h3 <;> simp [h3]
        · rw [if_neg h3]
          have j1 : joins l r = false := by rw [Bool.eq_false_iff]; exact fun h => h3 (Or.inl h)
          have j2 : [Str.ofString "Extend", Str.ofString "ZWJ"].any (fun x => x == r) = false := by rw [Bool.eq_false_iff]; exact fun h => h3 (Or.inr h)
          rw [j1, j2]
          cases leg with
          | true => rw [if_neg (by simp)]; simp
          | false =>
            rw [if_neg Bool.false_ne_true]
            by_cases h4 : (r == Str.ofString "SpacingMark") = true ∨ (l == Str.ofString "Prepend") = true
            · rw [if_pos ⟨rfl, h4⟩]
              rcases h4 with h4 | h4 <;> simp [h4]
            · rw [if_neg (fun h => h4 h.2)]
              have k1 : (r == Str.ofString "SpacingMark") = false := by rw [Bool.eq_false_iff]; exact fun h => h4 (Or.inl h)
              have k2 : (l == Str.ofString "Prepend") = false := by rw [Bool.eq_false_iff]; exact fun h => h4 (Or.inr h)
              rw [k1, k2]
              cases isConj D tx i <;> cases isPic D tx i <;> cases isFlag D tx i <;> rfl
theorem drop_get {row : List Sign} {c k : Nat} : (row.drop c).getD k s0 = row.getD (c + k) s0 := by
  rw [List.getD_eq_getElem?_getD, List.getD_eq_getElem?_getD, List.getElem?_drop]
theorem riL_drop {row : List Sign} {c : Nat} (hc : 0 < c) (hF : ((row.getD (c - 1) s0).g == Str.ofString "Regional_Indicator") = false ∨ ((row.getD c s0).g == Str.ofString "Regional_Indicator") = false) : ∀ k, riL (row.drop c) (k + 1) = riL row (c + (k + 1))
  | 0 => by
    show riL (row.drop c) 1 = riL row (c + 1)
    unfold riL
    rw [drop_get, Nat.add_zero]
    rcases hF with h | h
    · obtain ⟨j, rfl⟩ : ∃ j, c = j + 1 := ⟨c - 1, by lia⟩
      have h' : ((row.getD j s0).g == Str.ofString "Regional_Indicator") = false := by simpa using h
      unfold riL
      rw [h', if_neg Bool.false_ne_true]
    · rw [h, if_neg Bool.false_ne_true, if_neg Bool.false_ne_true]
  | k + 1 => by
    have ih := riL_drop hc hF k
    show (if _ then _ else _) = riL row ((c + (k + 1)) + 1)
    rw [drop_get, ih]; rfl
def cval (row : List Sign) (x : Int × Bool) : Bool := x.2 && decide (x.1 ≥ 0) && ((row.getD x.1.toNat s0).i == Str.ofString "Consonant")
theorem lcB_stop {row : List Sign} {c : Nat} {f : Bool} (h : ([Str.ofString "Extend", Str.ofString "Linker"].any (fun x => x == (row.getD c s0).i)) = false) : lcB row (c + 1) f = ((c : Int), f) := by
  show (if _ then _ else _) = _
  rw [if_neg (ne_true_of_eq_false h)]
theorem lcB_go {row : List Sign} {c : Nat} {f : Bool} (h : ([Str.ofString "Extend", Str.ofString "Linker"].any (fun x => x == (row.getD c s0).i)) = true) : lcB row (c + 1) f = lcB row c (f || ((row.getD c s0).i == Str.ofString "Linker")) := by
  show (if _ then _ else _) = _
  rw [if_pos h]
theorem cval_same {row : List Sign} {c k : Nat} {f : Bool} : cval (row.drop c) ((k : Int), f) = cval row (((c + k : Nat) : Int), f) := by
  unfold cval
  dsimp only
  rw [decide_eq_true (by lia : (k : Int) ≥ 0), decide_eq_true (by lia : ((c + k : Nat) : Int) ≥ 0), show ((k : Int)).toNat = k by lia, show (((c + k : Nat) : Int)).toNat = c + k by lia, drop_get]
theorem lcB_drop {row : List Sign} {c : Nat} (hc : 0 < c) (hC : ([Str.ofString "Extend", Str.ofString "Linker"].any (fun x => x == (row.getD c s0).i)) = false ∨ (([Str.ofString "Extend", Str.ofString "Linker"].any (fun x => x == (row.getD (c - 1) s0).i)) = false ∧ ((row.getD (c - 1) s0).i == Str.ofString "Consonant") = false)) : ∀ k f, cval (row.drop c) (lcB (row.drop c) (k + 1) f) = cval row (lcB row (c + (k + 1)) f)
  | 0, f => by
    show cval (row.drop c) (lcB (row.drop c) (0 + 1) f) = cval row (lcB row (c + 1) f)
    cases hj : ([Str.ofString "Extend", Str.ofString "Linker"].any (fun x => x == (row.getD c s0).i)) with
    | false =>
      rw [lcB_stop (by rw [drop_get, Nat.add_zero]; exact hj), lcB_stop hj]
      exact cval_same
    | true =>
      rcases hC with h | ⟨h1, h2⟩
      · rw [hj] at h; cases h
      · rw [lcB_go (by rw [drop_get, Nat.add_zero]; exact hj), lcB_go hj]
        obtain ⟨j, rfl⟩ : ∃ j, c = j + 1 := ⟨c - 1, by lia⟩
        rw [show j + 1 - 1 = j by lia] at h1 h2
        rw [lcB_stop h1]
        show cval _ ((-1 : Int), _) = _
        unfold cval
        dsimp only
        rw [decide_eq_false (by lia : ¬ (-1 : Int) ≥ 0), show ((j : Int)).toNat = j by lia, h2]
        simp
  | k + 1, f => by
    show cval (row.drop c) (lcB (row.drop c) ((k + 1) + 1) f) = cval row (lcB row ((c + (k + 1)) + 1) f)
    cases hj : ([Str.ofString "Extend", Str.ofString "Linker"].any (fun x => x == (row.getD (c + (k + 1)) s0).i)) with
    | false =>
      rw [lcB_stop (by rw [drop_get]; exact hj), lcB_stop hj]
      exact cval_same
    | true =>
      rw [lcB_go (by rw [drop_get]; exact hj), lcB_go hj, drop_get]
      exact lcB_drop hc hC k _
theorem lpB_drop {row : List Sign} {c : Nat} (hc : 0 < c) (hP : ((row.getD c s0).g == Str.ofString "Extend") = false ∨ ((row.getD (c - 1) s0).e = false ∧ ((row.getD (c - 1) s0).g == Str.ofString "Extend") = false)) : ∀ k, lpB (row.drop c) (k + 1) = lpB row (c + (k + 1))
  | 0 => by
    show lpB (row.drop c) (0 + 1) = lpB row (c + 1)
    unfold lpB
    rw [drop_get, Nat.add_zero]
    rcases hP with h | ⟨h1, h2⟩
    · rw [h]; simp
    · obtain ⟨j, rfl⟩ : ∃ j, c = j + 1 := ⟨c - 1, by lia⟩
      rw [show j + 1 - 1 = j by lia] at h1 h2
      have e0 : lpB (row.drop (j + 1)) 0 = false := rfl
      have e1 : lpB row (j + 1) = false := by unfold lpB; rw [h1, h2]; rfl
      rw [e0, e1]
  | k + 1 => by
    have ih := lpB_drop hc hP k
    show (if _ then _ else if _ then _ else _) = lpB row ((c + (k + 1)) + 1)
    rw [drop_get, ih]; rfl
theorem lpB_drop0 {row : List Sign} {c : Nat} (hc : 0 < c) (hP : (row.getD (c - 1) s0).e = false ∧ ((row.getD (c - 1) s0).g == Str.ofString "Extend") = false) : lpB row c = false := by
  obtain ⟨j, rfl⟩ : ∃ j, c = j + 1 := ⟨c - 1, by lia⟩
  rw [show j + 1 - 1 = j by lia] at hP
  unfold lpB; rw [hP.1, hP.2]; rfl
/-- what tells the same behind a cut, whatever stood ahead of it -/
theorem cut_free {row : List Sign} {c : Nat} (hc : 0 < c) (hF : ((row.getD (c - 1) s0).g == Str.ofString "Regional_Indicator") = false ∨ ((row.getD c s0).g == Str.ofString "Regional_Indicator") = false)
    (hC : ([Str.ofString "Extend", Str.ofString "Linker"].any (fun x => x == (row.getD c s0).i)) = false ∨ (([Str.ofString "Extend", Str.ofString "Linker"].any (fun x => x == (row.getD (c - 1) s0).i)) = false ∧ ((row.getD (c - 1) s0).i == Str.ofString "Consonant") = false))
    (hP : (((row.getD c s0).g == Str.ofString "Extend") = false ∧ ((row.getD c s0).g == Str.ofString "ZWJ") = false) ∨ ((row.getD (c - 1) s0).e = false ∧ ((row.getD (c - 1) s0).g == Str.ofString "Extend") = false))
    {a : Int} (h1 : 1 ≤ a) (h2 : c + a < row.length) (leg : Bool) : lawBrk (row.drop c) a leg = lawBrk row (c + a) leg := by
  obtain ⟨k, rfl⟩ : ∃ k : Nat, a = (k : Int) + 1 := ⟨(a - 1).toNat, by lia⟩
  have g1 : ∀ (j : Int), 0 ≤ j → (row.drop c).getD j.toNat s0 = row.getD ((c : Int) + j).toNat s0 := fun j hj => by
    rw [drop_get]; congr 1; lia
  have gc : lawConj (row.drop c) ((k : Int) + 1) = lawConj row ((c : Int) + ((k : Int) + 1)) := by
    have := lcB_drop hc hC k false
    unfold lawConj
    rw [g1 _ (by lia), show ((k : Int) + 1).toNat = k + 1 by lia, show ((c : Int) + ((k : Int) + 1)).toNat = c + (k + 1) by lia]
    simp only [Bool.and_assoc]
    unfold cval at this
    simp only [Bool.and_assoc] at this
    rw [this]
  have gp : lawPic (row.drop c) ((k : Int) + 1) = lawPic row ((c : Int) + ((k : Int) + 1)) := by
    unfold lawPic
    rw [g1 _ (by lia), g1 _ (by lia), show ((c : Int) + ((k : Int) + 1 - 1)) = (c : Int) + ((k : Int) + 1) - 1 by lia]
    cases k with
    | zero =>
      rw [show ((c : Int) + (((0 : Nat) : Int) + 1) - 1).toNat = c by lia, show ((c : Int) + (((0 : Nat) : Int) + 1) - 2 + 1).toNat = c by lia, show ((((0 : Nat) : Int) + 1) - 2 + 1).toNat = 0 by lia]
      rcases hP with h | h
      · rw [h.2]; simp
      · rw [lpB_drop0 hc h]; simp [lpB]
    | succ k =>
      rw [show ((((k + 1 : Nat)) : Int) + 1 - 2 + 1).toNat = k + 1 by lia, show ((c : Int) + (((k + 1 : Nat) : Int) + 1) - 2 + 1).toNat = c + (k + 1) by lia, lpB_drop hc (hP.imp (·.1) id) k]
  have gr : riL (row.drop c) ((k : Int) + 1).toNat = riL row ((c : Int) + ((k : Int) + 1)).toNat := by
    rw [show ((k : Int) + 1).toNat = k + 1 by lia, show ((c : Int) + ((k : Int) + 1)).toNat = c + (k + 1) by lia]
    exact riL_drop hc hF k
  unfold lawBrk
  rw [List.length_drop, if_neg (show ¬ ((k : Int) + 1 = 0 ∨ (k : Int) + 1 = ((row.length - c : Nat) : Int)) by lia), if_neg (show ¬ ((c : Int) + ((k : Int) + 1) = 0 ∨ (c : Int) + ((k : Int) + 1) = (row.length : Int)) by lia), gc, gp, gr, g1 _ (by lia), g1 _ (by lia), show ((c : Int) + ((k : Int) + 1 - 1)) = (c : Int) + ((k : Int) + 1) - 1 by lia]
theorem cut_of {row : List Sign} {c : Int} (h0 : 0 ≤ c) (h1 : c ≤ row.length) (hb : lawBrk row c false = true) (hs : ∀ a : Int, 1 ≤ a → c + a < row.length → lawBrk (row.drop c.toNat) a false = lawBrk row (c + a) false) : cutR row c false = true := by
  unfold cutR
  rw [hb, Bool.true_and, decide_eq_true_eq]
  refine List.map_congr_left fun a ha => ?_
  obtain ⟨a0, a1⟩ := mem_rangeKs ha
  exact hs a (by lia) (by lia)
theorem cut_zero {row : List Sign} (h : row ≠ []) : cutR row 0 false = true := by
  refine cut_of (by lia) (by lia) ?_ ?_
  · unfold lawBrk; rw [if_pos (Or.inl rfl)]
    have : row.length ≠ 0 := fun e => h (List.length_eq_zero_iff.mp e)
    simp [this]
  · intro a _ _
    show lawBrk (row.drop 0) a false = _
    rw [List.drop_zero, Int.zero_add]
theorem any2 {a b x : Str} (h : [a, b].any (fun y => y == x) = false) : (x == a) = false ∧ (x == b) = false := by
  simp only [List.any_cons, List.any_nil, Bool.or_false, Bool.or_eq_false_iff, beq_eq_false_iff_ne] at h ⊢
  exact ⟨fun e => h.1 e.symm, fun e => h.2 e.symm⟩
theorem none_free {x : Str} (h : (x == Str.ofString "None") = true) : ([Str.ofString "Extend", Str.ofString "Linker"].any (fun y => y == x)) = false ∧ (x == Str.ofString "Consonant") = false := by
  rw [eq_of_beq h]; decide +kernel
theorem beq_f {x y : Str} (h : x ≠ y) : (x == y) = false := by simp [h]
theorem sure_cut {D : Db} {tx : List Int} (hk : Kinds D tx) {c : Int} (h0 : 0 < c) (h1 : c < tx.length) (hs : sure D (tx.getD (c - 1).toNat 0) (tx.getD c.toNat 0) = true) : cutR (rowOf D tx) c false = true := by
  have hlen : (rowOf D tx).length = tx.length := rowOf_len
  obtain ⟨n, rfl⟩ := Int.eq_ofNat_of_zero_le (by lia : 0 ≤ c)
  have e1 : ((n : Int) - 1).toNat = n - 1 := by lia
  have e2 : ((n : Int)).toNat = n := by lia
  have n0 : 0 < n := by lia
  have n1 : n < tx.length := by lia
  rw [e1, e2] at hs
  have key : brk D tx n false = true ∧ ((D.g (tx.getD (n - 1) 0) == Str.ofString "Regional_Indicator") = false ∨ (D.g (tx.getD n 0) == Str.ofString "Regional_Indicator") = false) ∧
      (([Str.ofString "Extend", Str.ofString "Linker"].any (fun x => x == D.i (tx.getD n 0))) = false ∨ (([Str.ofString "Extend", Str.ofString "Linker"].any (fun x => x == D.i (tx.getD (n - 1) 0))) = false ∧ (D.i (tx.getD (n - 1) 0) == Str.ofString "Consonant") = false)) ∧
      (((D.g (tx.getD n 0) == Str.ofString "Extend") = false ∧ (D.g (tx.getD n 0) == Str.ofString "ZWJ") = false) ∨ (D.e (tx.getD (n - 1) 0) = false ∧ (D.g (tx.getD (n - 1) 0) == Str.ofString "Extend") = false)) := by
    have hbs : ∀ b, pairS (D.g (tx.getD (n - 1) 0)) (D.g (tx.getD n 0)) false = some b → brk D tx n false = b := fun b hb => brk_some (by lia) (by lia) (by rw [e1, e2]; exact hb)
    have hbn : pairS (D.g (tx.getD (n - 1) 0)) (D.g (tx.getD n 0)) false = none → brk D tx n false = !((!false && isConj D tx n) || isPic D tx n || isFlag D tx n) := fun hb => brk_none (by lia) (by lia) (by rw [e1, e2]; exact hb)
    obtain ⟨j, rfl⟩ : ∃ j, n = j + 1 := ⟨n - 1, by lia⟩
    rw [show j + 1 - 1 = j by lia] at hs hbs hbn ⊢
    unfold sure at hs
    cases hp : pairS (D.g (tx.getD j 0)) (D.g (tx.getD (j + 1) 0)) false with
    | none =>
      rw [hp] at hs
      dsimp only at hs
      split at hs
      · cases hs
      · rename_i hno
        simp only [not_or, Bool.not_eq_true] at hno
        obtain ⟨q1, q2, q3⟩ := hno
        obtain ⟨q4, q5⟩ := any2 q2
        obtain ⟨q6, q7⟩ := none_free hs
        refine ⟨?_, .inl q1, .inr ⟨q6, q7⟩, .inr ⟨q3, q4⟩⟩
        rw [hbn hp]
        have r1 : isConj D tx ((j + 1 : Nat) : Int) = false := by
          unfold isConj
          rw [show (((j + 1 : Nat) : Int)).toNat = j + 1 by lia]
          unfold conjB
          rw [q7, q6]; simp
        have r2 : isPic D tx ((j + 1 : Nat) : Int) = false := by
          unfold isPic
          rw [show ((((j + 1 : Nat) : Int)) - 1).toNat = j by lia, q5]; simp
        have r3 : isFlag D tx ((j + 1 : Nat) : Int) = false := by
          unfold isFlag
          rw [show (((j + 1 : Nat) : Int)).toNat = j + 1 by lia]
          have : ri D tx (j + 1) = 0 := by unfold ri; rw [q1]; rfl
          rw [this]; simp
        rw [r1, r2, r3]; rfl
    | some b =>
      rw [hp] at hs
      cases b with
      | false => dsimp only at hs; cases hs
      | true =>
        dsimp only at hs
        split at hs
        · cases hs
        · rename_i hno
          refine ⟨hbs true hp, ?_, ?_, ?_⟩
          · cases z1 : (D.g (tx.getD j 0) == Str.ofString "Regional_Indicator") with
            | false => exact .inl rfl
            | true =>
              cases z2 : (D.g (tx.getD (j + 1) 0) == Str.ofString "Regional_Indicator") with
              | false => exact .inr rfl
              | true =>
                rw [eq_of_beq z1, eq_of_beq z2] at hp
                exact absurd hp (by decide +kernel)
          · cases z1 : [Str.ofString "Extend", Str.ofString "Linker"].any (fun x => x == D.i (tx.getD (j + 1) 0)) with
            | false => exact .inl rfl
            | true =>
              rw [z1] at hs
              exact .inr (none_free (by simpa using hs))
          · cases z1 : [Str.ofString "Extend", Str.ofString "ZWJ"].any (fun x => x == D.g (tx.getD (j + 1) 0)) with
            | false =>
              obtain ⟨q4, q5⟩ := any2 z1
              exact .inl ⟨q4, q5⟩
            | true =>
              have he : D.e (tx.getD j 0) = false := by
                rw [Bool.eq_false_iff]; exact fun h => hno ⟨z1, h⟩
              refine .inr ⟨he, ?_⟩
              rw [Bool.eq_false_iff]
              intro z2
              rw [eq_of_beq z2] at hp
              simp only [List.any_cons, List.any_nil, Bool.or_false, Bool.or_eq_true, beq_iff_eq] at z1
              rcases z1 with z1 | z1
              · rw [← z1] at hp; exact absurd hp (by decide +kernel)
              · rw [← z1] at hp; exact absurd hp (by decide +kernel)
  obtain ⟨k1, k2, k3, k4⟩ := key
  refine cut_of (by lia) (by lia) ?_ ?_
  · rw [← brk_law hk (by lia) (by lia)]; exact k1
  · intro a a1 a2
    rw [e2]
    refine cut_free n0 ?_ ?_ ?_ a1 (by lia) false
    · rw [row_g (by lia), row_g n1]; exact k2
    · rw [row_i n1, row_i (by lia)]; exact k3
    · rw [row_g n1, row_e (by lia), row_g (by lia)]; exact k4
theorem safe_law {D : Db} {tx : List Int} (hk : Kinds D tx) : ∀ k : Nat, k ≤ tx.length → 0 ≤ safe D tx k ∧ safe D tx k ≤ k ∧ (tx ≠ [] → safe D tx k < tx.length → cutR (rowOf D tx) (safe D tx k) false = true)
  | 0, _ => ⟨Int.le_refl _, Int.le_refl _, fun h _ => cut_zero (by intro e; exact h (List.map_eq_nil_iff.mp e))⟩
  | k + 1, h => by
    unfold safe
    by_cases h1 : k + 1 < tx.length
    · rw [if_pos h1]
      cases hs : sure D (tx.getD k 0) (tx.getD (k + 1) 0) with
      | true =>
        rw [if_pos rfl]
        refine ⟨by lia, by lia, fun _ _ => sure_cut hk (by lia) (by lia) ?_⟩
        rw [show ((k : Int) + 1 - 1).toNat = k by lia, show ((k : Int) + 1).toNat = k + 1 by lia]; exact hs
      | false =>
        rw [if_neg Bool.false_ne_true]
        obtain ⟨a, b, c⟩ := safe_law hk k (by lia)
        exact ⟨a, by lia, c⟩
    · rw [if_neg h1]
      exact ⟨by lia, by lia, fun _ h => by lia⟩
theorem sure_lf {D : Db} {l r : Int} (hl : D.g l = Str.ofString "LF" → D.i l = Str.ofString "None" ∧ D.e l = false) (hr : D.g r = Str.ofString "LF" → D.i r = Str.ofString "None") (h : D.g l = Str.ofString "LF" ∨ D.g r = Str.ofString "LF") (hc : D.g l ≠ Str.ofString "CR") : sure D l r = true := by
  have hp : pairS (D.g l) (D.g r) false = some true := by
    unfold pairS
    rw [if_neg (fun q => hc (eq_of_beq q.1)), if_pos]
    rcases h with h | h
    · left; rw [h]; decide +kernel
    · right; rw [h]; decide +kernel
  unfold sure
  rw [hp]
  dsimp only
  rcases h with h | h
  · obtain ⟨a, b⟩ := hl h
    rw [if_neg (by rw [b]; simp), a]; simp
  · rw [if_neg (by rw [h]; intro q; exact absurd q.1 (by decide +kernel)), hr h]
    rfl
theorem sure_plain {D : Db} {l r : Int} (hl : sg D l = ⟨Str.ofString "Other", Str.ofString "None", false⟩) (hr : sg D r = ⟨Str.ofString "Other", Str.ofString "None", false⟩) : sure D l r = true := by
  have a1 : D.g l = Str.ofString "Other" := congrArg Sign.g hl
  have a2 : D.i l = Str.ofString "None" := congrArg Sign.i hl
  have a3 : D.e l = false := congrArg Sign.e hl
  have b1 : D.g r = Str.ofString "Other" := congrArg Sign.g hr
  have hp : pairS (D.g l) (D.g r) false = none := by rw [a1, b1]; decide +kernel
  unfold sure
  rw [hp]
  dsimp only
  rw [a1, a2, a3]; decide +kernel
structure SInv (D : Db) (tx : List Int) (i : Nat) (S : SS) : Prop where
  kind : S.kind = if i = 0 then none else some (D.g (tx.getD (i - 1) 0))
  odd : S.odd = decide (ri D tx i % 2 = 1)
  pic : S.pic = picB D tx i
  joint : S.joint = (decide (0 < i) && (D.g (tx.getD (i - 1) 0) == Str.ofString "ZWJ") && picB D tx (i - 1))
  lo : 0 ≤ S.cj ∧ S.cj ≤ 2
  cj : ∀ hl, conjB D tx i hl = (decide (S.cj = 2) || (decide (1 ≤ S.cj) && hl))
theorem SInv.zero {D : Db} {tx : List Int} : SInv D tx 0 SS0 := by
  constructor
  · rfl
  · rfl
  · rfl
  · rfl
  · exact ⟨Int.le_refl _, by decide⟩
  · intro hl
    show false = (decide ((0 : Int) = 2) || (decide ((1 : Int) ≤ 0) && hl))
    rfl
theorem SInv.succ {D : Db} {tx : List Int} {i : Nat} {S : SS} (h : SInv D tx i S) : SInv D tx (i + 1) (S.step D (tx.getD i 0)) := by
  obtain ⟨h1, h2, h3, h4, h5, h6⟩ := h
  constructor
  · rfl
  · show ((D.g (tx.getD i 0) == Str.ofString "Regional_Indicator") && !S.odd) = _
    have e : ri D tx (i + 1) = if (D.g (tx.getD i 0) == Str.ofString "Regional_Indicator") = true then ri D tx i + 1 else 0 := rfl
    rw [h2, e]
    cases D.g (tx.getD i 0) == Str.ofString "Regional_Indicator" with
    | false => rfl
    | true =>
      rw [if_pos rfl, Bool.true_and, Bool.eq_iff_iff]
      simp only [Bool.not_eq_true', decide_eq_true_eq, decide_eq_false_iff_not]
      lia
  · show (D.e (tx.getD i 0) || ((D.g (tx.getD i 0) == Str.ofString "Extend") && S.pic)) = _
    have e : picB D tx (i + 1) = if D.e (tx.getD i 0) = true then true else if (D.g (tx.getD i 0) == Str.ofString "Extend") = true then picB D tx i else false := rfl
    rw [h3, e]
    cases D.e (tx.getD i 0) <;> cases (D.g (tx.getD i 0) == Str.ofString "Extend") <;> rfl
  · show ((D.g (tx.getD i 0) == Str.ofString "ZWJ") && S.pic) = _
    rw [h3, decide_eq_true (Nat.succ_pos i), Nat.add_sub_cancel, Bool.true_and]
  · show 0 ≤ cjn (D.i (tx.getD i 0)) S.cj ∧ cjn (D.i (tx.getD i 0)) S.cj ≤ 2
    unfold cjn
    split
    · lia
    · split
      · lia
      · split
        · lia
        · exact h5
  · intro hl
    show conjB D tx (i + 1) hl = (decide (cjn (D.i (tx.getD i 0)) S.cj = 2) || (decide (1 ≤ cjn (D.i (tx.getD i 0)) S.cj) && hl))
    have e : conjB D tx (i + 1) hl = if (D.i (tx.getD i 0) == Str.ofString "Consonant") = true then hl
      else if [Str.ofString "Extend", Str.ofString "Linker"].any (fun x => x == D.i (tx.getD i 0)) = true then conjB D tx i (hl || (D.i (tx.getD i 0) == Str.ofString "Linker")) else false := rfl
    rw [e]
    unfold cjn
    cases hc : (D.i (tx.getD i 0) == Str.ofString "Consonant") with
    | true =>
      rw [if_pos rfl, if_pos rfl]
      show hl = (false || (true && hl))
      simp
    | false =>
      rw [if_neg Bool.false_ne_true, if_neg Bool.false_ne_true]
      cases hlk : (D.i (tx.getD i 0) == Str.ofString "Linker") with
      | true =>
        have hj : [Str.ofString "Extend", Str.ofString "Linker"].any (fun x => x == D.i (tx.getD i 0)) = true := by rw [eq_of_beq hlk]; decide +kernel
        rw [hj, if_pos rfl, h6]
        by_cases hp : S.cj > 0
        · rw [if_pos ⟨rfl, hp⟩, Bool.or_true, Bool.and_true, decide_eq_true (by lia : 1 ≤ S.cj)]
          simp
        · rw [if_neg (fun q : true = true ∧ S.cj > 0 => hp q.2), if_neg (by simp), decide_eq_false (by lia : ¬ S.cj = 2), decide_eq_false (by lia : ¬ 1 ≤ S.cj)]
          simp
      | false =>
        rw [if_neg (fun q : false = true ∧ S.cj > 0 => Bool.false_ne_true q.1)]
        cases hj : [Str.ofString "Extend", Str.ofString "Linker"].any (fun x => x == D.i (tx.getD i 0)) with
        | true =>
          rw [if_pos rfl, if_neg (by simp), h6, Bool.or_false]
        | false =>
          rw [if_neg Bool.false_ne_true, if_pos rfl]
          rfl
theorem SInv.all {D : Db} {tx : List Int} : ∀ i : Nat, i ≤ tx.length → SInv D tx i (stepS D (tx.take i) SS0)
  | 0, _ => SInv.zero
  | i + 1, h => by
    have hi : tx[i]? = some (tx.getD i 0) := by
      rw [List.getD_eq_getElem?_getD, List.getElem?_eq_getElem (by lia)]; rfl
    rw [take_snoc hi, stepS_snoc]
    exact (SInv.all i (by lia)).succ
theorem told_law {D : Db} {tx : List Int} {i : Nat} (h : i < tx.length) (leg : Bool) : (stepS D (tx.take i) SS0).told D leg (tx.getD i 0) = brk D tx i leg := by
  obtain ⟨h1, h2, h3, h4, h5, h6⟩ := SInv.all (D := D) i (Nat.le_of_lt h)
  generalize stepS D (tx.take i) SS0 = S at h1 h2 h3 h4 h5 h6
  unfold SS.told
  cases i with
  | zero =>
    rw [h1, if_pos rfl, show ((0 : Nat) : Int) = 0 from rfl, brk_end (Or.inl rfl)]
    cases tx with
    | nil => simp at h
    | cons x r => simp
  | succ i =>
    rw [h1, if_neg (Nat.succ_ne_zero i)]
    dsimp only
    have e1 : (((i + 1 : Nat) : Int) - 1).toNat = i := by lia
    have e2 : (((i + 1 : Nat) : Int)).toNat = i + 1 := by lia
    rw [Nat.add_sub_cancel] at h4 ⊢
    cases hp : pairS (D.g (tx.getD i 0)) (D.g (tx.getD (i + 1) 0)) leg with
    | some b =>
      dsimp only
      exact (brk_some (by lia) (by lia) (by rw [e1, e2]; exact hp)).symm
    | none =>
      dsimp only
      rw [brk_none (by lia) (by lia) (by rw [e1, e2]; exact hp)]
      congr 1
      have p1 : isConj D tx ((i + 1 : Nat) : Int) = ((D.i (tx.getD (i + 1) 0) == Str.ofString "Consonant") && decide (S.cj = 2)) := by
        unfold isConj; rw [e2, h6]; simp
      have p2 : isPic D tx ((i + 1 : Nat) : Int) = (D.e (tx.getD (i + 1) 0) && S.joint) := by
        unfold isPic; rw [e1, e2, show (((i + 1 : Nat) : Int) - 2 + 1).toNat = i by lia, h4, decide_eq_true (Nat.succ_pos i), Bool.true_and, Bool.and_assoc]
      have p3 : isFlag D tx ((i + 1 : Nat) : Int) = ((D.g (tx.getD (i + 1) 0) == Str.ofString "Regional_Indicator") && S.odd) := by
        unfold isFlag; rw [e2, h2]
      rw [p1, p2, p3]
      unfold held
      cases (D.i (tx.getD (i + 1) 0) == Str.ofString "Consonant") <;> cases leg <;> cases D.e (tx.getD (i + 1) 0) <;> cases S.joint <;> by_cases hc : S.cj = 2 <;> simp [hc]
theorem rangeKs_snoc (a : Int) (n : Nat) : rangeKs a (n + 1) = rangeKs a n ++ [a + (n : Int)] := by
  unfold rangeKs
  rw [List.range_succ, List.map_append]; rfl
theorem rangeKs_cons (a : Int) (n : Nat) : rangeKs a (n + 1) = a :: rangeKs (a + 1) n := by
  apply List.ext_getElem?
  intro i
  cases i with
  | zero => simp [rangeKs]
  | succ i =>
    by_cases h : i < n
    · simp [rangeKs, h]; lia
    · simp [rangeKs, h]
theorem runS_law {D : Db} {tx : List Int} (leg : Bool) : ∀ j : Nat, j ≤ tx.length → runS D leg (tx.take j) SS0 0 = (rangeKs 0 j).filter (fun i => brk D tx i leg)
  | 0, _ => rfl
  | j + 1, h => by
    have hi : tx[j]? = some (tx.getD j 0) := by
      rw [List.getD_eq_getElem?_getD, List.getElem?_eq_getElem (by lia)]; rfl
    rw [take_snoc hi, runS_snoc, runS_law leg j (by lia), told_law (by lia), rangeKs_snoc, List.filter_append, List.length_take, show 0 + min j tx.length = j by lia, Int.zero_add]
    congr 1
    cases hb : brk D tx (j : Int) leg <;> simp [hb]
theorem due_law {D : Db} {tx : List Int} (hk : Kinds D tx) (leg : Bool) : due (rowOf D tx) tx.length leg = (rangeKs 0 (tx.length + 1)).filter (fun i => brk D tx i leg) := by
  unfold due
  refine List.filter_congr fun i hi => ?_
  obtain ⟨a, b⟩ := mem_rangeKs hi
  exact (brk_law hk (by lia) (by lia) leg).symm
theorem nxt_law {D : Db} {tx : List Int} (leg : Bool) (hne : tx ≠ []) : ∀ (k : Nat) (f : Int), f + k = tx.length → ∃ r, (rangeKs f (k + 1)).filter (fun i => brk D tx i leg) = nxtF D tx leg k f :: r
  | 0, f, h => by
    have hb : brk D tx f leg = true := by rw [brk_end (Or.inr (by lia))]; simp [hne]
    exact ⟨[], by simp [rangeKs, hb, nxtF]⟩
  | k + 1, f, h => by
    rw [rangeKs_cons]
    unfold nxtF
    cases hb : brk D tx f leg with
    | true => exact ⟨_, by rw [List.filter_cons, if_pos hb, if_pos rfl]⟩
    | false =>
      obtain ⟨r, hr⟩ := nxt_law leg hne k (f + 1) (by lia)
      exact ⟨r, by rw [List.filter_cons, if_neg (by rw [hb]; exact Bool.false_ne_true), if_neg Bool.false_ne_true]; exact hr⟩
theorem prv_law {D : Db} {tx : List Int} (leg : Bool) (hne : tx ≠ []) : ∀ k : Nat, ∃ r, (rangeKs 0 (k + 1)).filter (fun i => brk D tx i leg) = r ++ [prv D tx leg k]
  | 0 => by
    have hb : brk D tx 0 leg = true := by rw [brk_end (Or.inl rfl)]; simp [hne]
    exact ⟨[], by simp [rangeKs, hb, prv]⟩
  | k + 1 => by
    rw [rangeKs_snoc, List.filter_append]
    unfold prv
    cases hb : brk D tx ((k : Int) + 1) leg with
    | true =>
      refine ⟨(rangeKs 0 (k + 1)).filter (fun i => brk D tx i leg), ?_⟩
      rw [if_pos rfl, show (0 : Int) + ((k + 1 : Nat) : Int) = (k : Int) + 1 by lia]
      congr 1
      simp [hb]
    | false =>
      obtain ⟨r, hr⟩ := prv_law leg hne k
      refine ⟨r, ?_⟩
      rw [if_neg Bool.false_ne_true, ← hr, show (0 : Int) + ((k + 1 : Nat) : Int) = (k : Int) + 1 by lia]
      simp [hb]
theorem filter_lt {n k : Nat} (h : k ≤ n) (p : Int → Bool) : ((rangeKs 0 n).filter p).filter (fun i => decide (i < (k : Int))) = (rangeKs 0 k).filter p := by
  induction n with
  | zero =>
    have : k = 0 := by lia
    subst this; rfl
  | succ n ih =>
    rw [rangeKs_snoc]
    by_cases hk : k = n + 1
    · subst hk
      rw [← rangeKs_snoc, List.filter_filter]
      refine List.filter_congr fun i hi => ?_
      obtain ⟨a, b⟩ := mem_rangeKs hi
      rw [decide_eq_true (by lia)]; rfl
    · rw [List.filter_append, List.filter_append, ih (by lia)]
      have : List.filter (fun i => decide (i < (k : Int))) (List.filter p [(0 : Int) + (n : Int)]) = [] := by
        rw [List.filter_filter]
        simp; lia
      rw [this, List.append_nil]
theorem filter_gt {n : Nat} : ∀ (k : Nat), k ≤ n → ∀ (p : Int → Bool), ((rangeKs 0 n).filter p).filter (fun i => decide (i > (k : Int) - 1)) = (rangeKs k (n - k)).filter p
  | k, h, p => by
    have e : rangeKs 0 n = rangeKs 0 k ++ rangeKs k (n - k) := by
      obtain ⟨m, rfl⟩ : ∃ m, n = k + m := ⟨n - k, by lia⟩
      rw [show k + m - k = m by lia]
      clear h
      induction m with
      | zero => simp [rangeKs]
      | succ m ih => rw [← Nat.add_assoc, rangeKs_snoc, ih, rangeKs_snoc, List.append_assoc]; simp
    rw [e, List.filter_append, List.filter_append]
    have h1 : List.filter (fun i => decide (i > (k : Int) - 1)) (List.filter p (rangeKs 0 k)) = [] := by
      rw [List.filter_filter, List.filter_eq_nil_iff]
      intro i hi
      obtain ⟨a, b⟩ := mem_rangeKs hi
      simp; lia
    have h2 : List.filter (fun i => decide (i > (k : Int) - 1)) (List.filter p (rangeKs k (n - k))) = (rangeKs k (n - k)).filter p := by
      rw [List.filter_filter]
      refine List.filter_congr fun i hi => ?_
      obtain ⟨a, b⟩ := mem_rangeKs hi
      rw [decide_eq_true (by lia)]; rfl
    rw [h1, h2]; rfl
theorem pl_ok {D : Db} {tx : List Int} (hk : Kinds D tx) (leg : Bool) : PlOk D tx (rowOf D tx) leg where
  h0 := rowOf_len
  h1 := by rw [due_law hk]; rfl
  h2 := by
    have := runS_law (D := D) (tx := tx) leg tx.length (Nat.le_refl _)
    rw [List.take_length] at this
    rw [this, due_law hk, filter_lt (by lia)]
  h3 := by
    rw [due_law hk]
    unfold plcs
    by_cases he : tx = []
    · subst he
      rw [if_pos rfl]
      cases leg <;> rfl
    · rw [if_neg he]
      have := runS_law (D := D) (tx := tx) leg tx.length (Nat.le_refl _)
      rw [List.take_length] at this
      rw [this, rangeKs_snoc, List.filter_append]
      have hb : brk D tx (tx.length : Int) leg = true := by rw [brk_end (Or.inr rfl)]; simp [he]
      simp [hb]
  h5 := fun i h0 h1 => by
    have hne : tx ≠ [] := by intro e; subst e; simp at h1; lia
    obtain ⟨k, rfl⟩ := Int.eq_ofNat_of_zero_le h0
    obtain ⟨r, hr⟩ := nxt_law (D := D) leg hne (tx.length - (k + 1)) ((k : Int) + 1) (by lia)
    refine ⟨r, ?_⟩
    have := filter_gt (n := tx.length + 1) (k + 1) (by lia) (fun i => brk D tx i leg)
    rw [show (((k + 1 : Nat) : Int) - 1) = (k : Int) by lia] at this
    rw [due_law hk, this]
    unfold nxt
    rw [show ((tx.length : Int) - ((k : Int) + 1)).toNat = tx.length - (k + 1) by lia, ← hr, show tx.length + 1 - (k + 1) = tx.length - (k + 1) + 1 by lia]
    rfl
  h6 := fun i h0 h1 => by
    have hne : tx ≠ [] := by intro e; subst e; simp at h1; lia
    obtain ⟨k, rfl⟩ := Int.eq_ofNat_of_zero_le h0
    obtain ⟨r, hr⟩ := prv_law (D := D) leg hne k
    refine ⟨r, ?_⟩
    rw [due_law hk, show ((k : Int) + 1) = ((k + 1 : Nat) : Int) by lia, filter_lt (by lia), hr, show (((k + 1 : Nat) : Int) - 1).toNat = k by lia]
/-- a contract taken, what it turns named apart from the rest of the ledger -/
theorem CtrM.useP {w : World} {f : Addr} {d : Nat} {args : List Value} {mu : List (Addr × Obj)} {P : Heap → Prop} {R : Value → List (Addr × Obj) → Prop} (C : CtrM w f d args mu P R)
    {mean : ExcName → Option Value} {mg mb : Str → Option Value} {dp un : Nat} {gd : Option (List Code)} {cn : Str} {cs : Scope} {a : Addr} {ccd : Value} {cl : List (Str × Addr)} {outer : List Env} {A₀ : Around} {base h₀ : Heap} {L : Addr} {m : Str → Option Value} {s : Shared} {Q E : Value → Shared → Prop} (rest : List (Addr × Obj)) {led : List (Addr × Obj)}
    (B : Below A₀ base outer h₀) (F : Fr h₀ L s.heap m) (X : (hd.heap_1 w.params).In h₀) (N : News h₀ L s.heap led) (hsub : ∀ p ∈ mu ++ rest, p ∈ led) (nd : ((mu ++ rest).map (·.1)).Nodup) (T : Top view lv mean mg mb h₀) (hk : cs.kind = .function) (hP : P h₀) (hd : dp + d < recursionLimit) (hu : un + 8 * d < cLine) (hR : ∀ r mu', R r mu' → (mu'.map (·.1)).Nodup)
    (ret : ∀ r h' tk' mu', Fr h₀ L h' m → News h₀ L h' (mu' ++ rest) → ((mu' ++ rest).map (·.1)).Nodup → R r mu' → Q r { s with heap := h', toks := tk' }) :
    wpAny (model PySem.Challenge.rw_pq1305_01.row.prog w) (ktrTop dp un gd cn cs L a ccd cl outer) (call (.ref f) args) Q E s :=
  CtrM.useN C [] rest B F X (fun p hp => N p (hsub p hp)) nd T hk hP hd hu hR ret
theorem CtrM.imp {w : World} {f : Addr} {d : Nat} {args : List Value} {mu : List (Addr × Obj)} {P : Heap → Prop} {R R' : Value → List (Addr × Obj) → Prop} (C : CtrM w f d args mu P R) (h : ∀ v mu, R v mu → R' v mu) : CtrM w f d args mu P R' :=
  fun mean mg mb dp un gd cn cs a ccd cl outer A₀ base h₀ L m s Rr B F X N T hk hd hu hP ret =>
    C mean mg mb dp un gd cn cs a ccd cl outer A₀ base h₀ L m s Rr B F X N T hk hd hu hP fun r h' tk' mu' st F' N' fr hr => ret r h' tk' mu' st F' N' fr (h _ _ hr)
theorem nd_count {l l' : List (Addr × Obj)} (nd : (l.map (·.1)).Nodup) (h : ∀ a : Nat, List.count a (l'.map (·.1) : List Nat) ≤ List.count a (l.map (·.1) : List Nat)) : (l'.map (·.1)).Nodup := by
  have nd' : (l.map (·.1) : List Nat).Nodup := nd
  have key : (l'.map (·.1) : List Nat).Nodup := List.nodup_iff_count.mpr fun a => Nat.le_trans (h a) (List.nodup_iff_count.mp nd' a)
  exact key
/-- one of the database's maps -/
structure MapS where
  x : Addr
  dx : Addr
  sa : Addr
  va : Addr
  q : Nat → Int
  u : Nat → Tok
  n1 : Nat
  n2 : Nat
  dft : Value
  vs : List Value
  ws : List Value
  st : List Int
  dv : List Dv
def MapS.L (m : MapS) : List (Addr × Obj) := rmL m.x m.dx m.sa m.va m.q m.u m.n1 m.n2 m.dft m.vs m.ws
def kindD (isS : Bool) : Dv → Prop
  | .s _ => isS = true
  | .b _ => isS = false
theorem kindD.same {k : Bool} {a b : Dv} (ha : kindD k a) (hb : kindD k b) : Same a b := by
  cases a with
  | s x => cases b with
    | s y => exact .inl ⟨x, y, rfl, rfl⟩
    | b y => simp only [kindD] at ha hb; rw [ha] at hb; cases hb
  | b x => cases b with
    | s y => simp only [kindD] at ha hb; rw [ha] at hb; cases hb
    | b y => exact .inr ⟨x, y, rfl, rfl⟩
structure MapS.Ok (m : MapS) (isS : Bool) (n : Nat) (f : Int → Dv) : Prop where
  hi : IntsAre m.vs m.st
  hd : DvsAre m.ws m.dv
  hs : m.st.Pairwise (· < ·)
  hl : m.st.length = m.dv.length
  pos : 0 < cnt m.st 0
  le : m.st.length ≤ 1 + 2 * n
  kind : ∀ d ∈ m.dv, kindD isS d
  get : ∀ c, 8704 ≤ c → c < 8704 + (n : Int) → rget m.st m.dv c = f c
theorem map_step {isS : Bool} {n : Nat} {f : Int → Dv} {st st' : List Int} {dv dv' : List Dv} (hk : ∀ d ∈ dv, kindD isS d) (hz : kindD isS (f (8704 + (n : Int)))) (hle : st.length ≤ 1 + 2 * n) (hget : ∀ c, 8704 ≤ c → c < 8704 + (n : Int) → rget st dv c = f c) (hp : RmPut st dv (8704 + (n : Int)) (f (8704 + (n : Int))) st' dv')
    (x dx sa va : Addr) (q : Nat → Int) (u : Nat → Tok) (n1 n2 : Nat) (dft : Value) (vs ws : List Value) (hi : IntsAre vs st') (hd : DvsAre ws dv') : MapS.Ok ⟨x, dx, sa, va, q, u, n1, n2, dft, vs, ws, st', dv'⟩ isS (n + 1) f where
  hi := hi
  hd := hd
  hs := hp.sorted
  hl := hp.len
  pos := hp.pos
  le := by have := hp.le; show st'.length ≤ _; lia
  kind := fun d h => by
    rcases hp.mem d h with h | rfl
    · exact hk d h
    · exact hz
  get := fun c h0 h1 => by
    show rget st' dv' c = f c
    rw [hp.get c (by lia)]
    split
    · rename_i e; rw [e]
    · exact hget c h0 (by lia)
def PutOld (d dd df mp : Addr) (q : Nat → Int) (u : Nat → Tok) (pp ww : Value) (odf omp : Obj) (x : Addr) (isS : Bool) (n : Nat) (f : Int → Dv) (v : Value) (mu : List (Addr × Obj)) : Prop :=
  v = .none ∧ ∃ m : MapS, m.x = x ∧ mu = m.L ++ daL d dd df mp q u pp ww odf omp ∧ (mu.map (·.1)).Nodup ∧ m.Ok isS n f
theorem put_old (w : World) (d dd df mp : Addr) (q : Nat → Int) (u : Nat → Tok) (pp ww : Value) (odf omp : Obj) (kvs : List (Str × Value)) (nm : Str) (t : Tok) (m : MapS) (isS : Bool) (n : Nat) (f : Int → Dv) (c : Int) (t1 t2 : Tok) (v : Value) (hd2 : omp.IsDictOf (PySem.strKind PySem.Challenge.rw_pq1305_01.row.prog w) kvs) (hn : valueAt kvs nm = some (.ref m.x)) (lo2 : (mp == sysModules) = false)
    (hm : m.Ok isS n f) (hvz : IsDv v (f c)) (hkz : kindD isS (f c)) (hc : c = 8704 + (n : Int)) (hn16 : n < 16) (nd : ((m.L ++ daL d dd df mp q u pp ww odf omp).map (·.1)).Nodup) :
    CtrM w 269 16 [.ref d, .str nm t, .int c t1, .int c t2, v] (m.L ++ daL d dd df mp q u pp ww odf omp) (fun _ => True) (PutOld d dd df mp q u pp ww odf omp m.x isS (n + 1) f) := by
  have h := hm.le
  subst hc
  refine (c_dput w d dd df mp q u pp ww odf omp kvs nm t m.x m.dx m.sa m.va m.q m.u m.n1 m.n2 m.dft m.vs m.ws m.st m.dv _ t1 t2 v _ hd2 hn lo2 hvz (by lia) (by lia) hm.hi hm.hd hm.hs (by lia) hm.hl hm.pos (fun e he => (hm.kind e he).same hkz) nd).imp ?_
  rintro r mu ⟨e, sa, va, n1, n2, vs, ws, st', dv', e2, nd', hi, hd, hp⟩
  exact ⟨e, ⟨m.x, m.dx, sa, va, m.q, m.u, n1, n2, m.dft, vs, ws, st', dv'⟩, rfl, e2, by rw [e2]; exact nd', map_step hm.kind hkz hm.le hm.get hp _ _ _ _ _ _ _ _ _ _ _ hi hd⟩
def PutNew (w : World) (d dd df mp : Addr) (q : Nat → Int) (u : Nat → Tok) (pp ww : Value) (odf : Obj) (kvs : List (Str × Value)) (nm : Str) (isS : Bool) (f : Int → Dv) (v : Value) (mu : List (Addr × Obj)) : Prop :=
  v = .none ∧ ∃ (m : MapS) (omp : Obj), mu = m.L ++ daL d dd df mp q u pp ww odf omp ∧ omp.IsDictOf (PySem.strKind PySem.Challenge.rw_pq1305_01.row.prog w) (kvs ++ [(nm, .ref m.x)]) ∧ (mu.map (·.1)).Nodup ∧ m.Ok isS 1 f
theorem stored_new {kvs : List (Str × Value)} {k : Str} {v : Value} (h : valueAt kvs k = none) : stored kvs k v = kvs ++ [(k, v)] := by
  unfold stored
  rw [if_neg]
  intro q
  obtain ⟨p, hp, e⟩ := List.any_eq_true.mp q
  unfold valueAt at h
  have h2 : List.find? (fun kv => decide (kv.1 = k)) kvs = none := by simpa using h
  exact absurd e (by simpa using List.find?_eq_none.mp h2 p hp)
theorem put_new (w : World) (d dd df mp : Addr) (q : Nat → Int) (u : Nat → Tok) (pp ww : Value) (odf omp : Obj) (kvd kvs : List (Str × Value)) (nm : Str) (t : Tok) (dft : Value) (zd : Dv) (isS : Bool) (f : Int → Dv) (c : Int) (t1 t2 : Tok) (v : Value) (hd1 : odf.IsDictOf (PySem.strKind PySem.Challenge.rw_pq1305_01.row.prog w) kvd) (hv : valueAt kvd nm = some dft) (hvd : IsDv dft zd) (hkd : kindD isS zd) (hd2 : omp.IsDictOf (PySem.strKind PySem.Challenge.rw_pq1305_01.row.prog w) kvs) (hn : valueAt kvs nm = none) (hsz : kvs.length ≤ 5) (lo1 : (df == sysModules) = false) (lo2 : (mp == sysModules) = false)
    (hvz : IsDv v (f c)) (hkz : kindD isS (f c)) (hc : c = 8704) (nd : ((daL d dd df mp q u pp ww odf omp).map (·.1)).Nodup) :
    CtrM w 269 16 [.ref d, .str nm t, .int c t1, .int c t2, v] (daL d dd df mp q u pp ww odf omp) (fun _ => True) (PutNew w d dd df mp q u pp ww odf kvs nm isS f) := by
  subst hc
  refine (c_dputnew w d dd df mp q u pp ww odf omp kvd kvs nm t dft zd _ t1 t2 v _ hd1 hd2 hv hn lo1 lo2 hsz hvd hvz (hkd.same hkz) (by decide) (by decide) nd).imp ?_
  rintro r mu ⟨e, x, dx, sa, va, q', u', n1, n2, vs, ws, st', dv', omp', e2, hdo, nd', hi, hd, hp⟩
  refine ⟨e, ⟨x, dx, sa, va, q', u', n1, n2, dft, vs, ws, st', dv'⟩, omp', e2, ?_, by rw [e2]; exact nd', map_step (n := 0) (st := [0]) (dv := [zd]) (fun z hz => by rw [List.mem_singleton.mp hz]; exact hkd) hkz (Nat.le_refl _) (fun c h0 h1 => absurd h0 (by simp at h1; lia)) hp _ _ _ _ _ _ _ _ _ _ _ hi hd⟩
  show omp'.IsDictOf _ (kvs ++ [(nm, .ref x)])
  rw [← stored_new hn]
  exact hdo
theorem rm_at {h₀ h : Heap} {L : Addr} {news : List (Addr × Obj)} (N : News h₀ L h news) {m : MapS} (hm : ∀ p ∈ m.L, p ∈ news) {isS : Bool} {n : Nat} {f : Int → Dv} (ok : m.Ok isS n f) : RmAt h m.x m.st m.dv := by
  have g1 := (N _ (hm _ (.head _))).1
  have g2 := (N _ (hm _ (.tail _ (.head _)))).1
  have g3 := (N _ (hm _ (.tail _ (.tail _ (.head _))))).1
  have g4 := (N _ (hm _ (.tail _ (.tail _ (.tail _ (.head _)))))).1
  exact ⟨m.dx, m.sa, m.va, m.q, m.u, #[], 3, m.dft, m.vs, m.ws, g1, g2, ⟨_, g3, rfl, m.n1, rfl⟩, ok.hi, ⟨_, g4, rfl, m.n2, rfl⟩, ok.hd⟩
theorem rm_ok {m : MapS} {isS : Bool} {f : Int → Dv} (ok : m.Ok isS 16 f) : RmOk m.st m.dv f := ⟨ok.hs, by have := ok.le; lia, ok.hl, fun c h0 h1 => ⟨by have := ok.pos; have := cnt_mono (show (0 : Int) ≤ c by lia) m.st; lia, ok.get c h0 (by simpa using h1)⟩⟩
theorem data_at {w : World} {h₀ h : Heap} {L : Addr} {news : List (Addr × Obj)} (N : News h₀ L h news) {a b e : MapS} {d dd df mp : Addr} {q : Nat → Int} {u : Nat → Tok} {pp ww : Value} {odf omp : Obj} (ha : ∀ p ∈ a.L, p ∈ news) (hb : ∀ p ∈ b.L, p ∈ news) (he : ∀ p ∈ e.L, p ∈ news) (hd : ∀ p ∈ daL d dd df mp q u pp ww odf omp, p ∈ news)
    (hk : omp.IsDictOf (PySem.strKind PySem.Challenge.rw_pq1305_01.row.prog w) [(Str.ofString "gcb", .ref a.x), (Str.ofString "incb", .ref b.x), (Str.ofString "ep", .ref e.x)]) (lo : (mp == sysModules) = false) (D : Db) (oa : a.Ok true 16 (fun c => .s (D.g c))) (ob : b.Ok true 16 (fun c => .s (D.i c))) (oe : e.Ok false 16 (fun c => .b (D.e c))) : DataAt w d D h := by
  have g1 := (N _ (hd _ (.head _))).1
  have g2 := (N _ (hd _ (.tail _ (.head _)))).1
  have g3 := (N _ (hd _ (.tail _ (.tail _ (.head _))))).1
  exact ⟨dd, mp, .ref df, pp, ww, #[], 4, q, u, omp, a.x, b.x, e.x, a.st, a.dv, b.st, b.dv, e.st, e.dv, ⟨g2, g3, g1⟩, hk, lo, rm_at N ha oa, rm_ok oa, rm_at N hb ob, rm_ok ob, rm_at N he oe, rm_ok oe⟩
def SgIn (tl : List (Addr × Obj)) (v : Value) (s : Sign) : Prop := ∃ a o n t1 t2, v = .ref a ∧ (a, o) ∈ tl ∧ o.cls = .type "tuple" ∧ o.data = .seq #[.str s.g t1, .str s.i t2, .bool s.e] n ∧ s.g.length ≤ 100
theorem SgsIn.at {tl : List (Addr × Obj)} : ∀ {vs : List Value} {row : List Sign}, SgsIn tl vs row → ∀ i, i < row.length → ∃ v, vs[i]? = some v ∧ SgIn tl v (row.getD i s0)
  | _, _, .nil, i, h => by simp at h
  | _, _, .cons h1 h2 h3 h4 _, 0, _ => ⟨_, rfl, _, _, _, _, _, rfl, h1, h2, h3, h4⟩
  | _, _, .cons _ _ _ _ r, i + 1, h => by
    obtain ⟨v, a, b⟩ := SgsIn.at r i (by simpa using h)
    exact ⟨v, by simpa using a, by simpa using b⟩
theorem SgsIn.length {tl : List (Addr × Obj)} : ∀ {vs : List Value} {row : List Sign}, SgsIn tl vs row → vs.length = row.length
  | _, _, .nil => rfl
  | _, _, .cons _ _ _ _ r => by simp [SgsIn.length r]
theorem SgIn.mono {tl tl' : List (Addr × Obj)} (h : ∀ p ∈ tl, p ∈ tl') {v : Value} {s : Sign} (x : SgIn tl v s) : SgIn tl' v s := by
  obtain ⟨a, o, n, t1, t2, e, m, r⟩ := x
  exact ⟨a, o, n, t1, t2, e, h _ m, r⟩
theorem SgsIn.snoc {tl tl' : List (Addr × Obj)} (h : ∀ p ∈ tl, p ∈ tl') {v : Value} {s : Sign} (x : SgIn tl' v s) : ∀ {vs : List Value} {row : List Sign}, SgsIn tl vs row → SgsIn tl' (vs ++ [v]) (row ++ [s])
  | _, _, .nil => by
    obtain ⟨a, o, n, t1, t2, e, m, h2, h3, h4⟩ := x
    subst e
    exact .cons m h2 h3 h4 .nil
  | _, _, .cons h1 h2 h3 h4 r => .cons (h _ h1) h2 h3 h4 (SgsIn.snoc h x r)
theorem SgIn.sign {tl news : List (Addr × Obj)} {h₀ h : Heap} {L : Addr} {v : Value} {s : Sign} (N : News h₀ L h news) (hs : ∀ p ∈ tl, p ∈ news) (x : SgIn tl v s) : SignAt h v s := by
  obtain ⟨a, o, n, t1, t2, e, m, h2, h3, h4⟩ := x
  exact ⟨⟨a, t1, t2, e, o, (N _ (hs _ m)).1, h2, n, h3⟩, h4⟩
/-- the values of a row drawn from the known signs -/
inductive RowVs (kvs : List Value) : List Value → List Int → Prop
  | nil : RowVs kvs [] []
  | cons {v : Value} {m : Int} {vs : List Value} {ms : List Int} : kvs[m.toNat]? = some v → RowVs kvs vs ms → RowVs kvs (v :: vs) (m :: ms)
theorem RowVs.length {kvs : List Value} : ∀ {vs : List Value} {ms : List Int}, RowVs kvs vs ms → vs.length = ms.length
  | _, _, .nil => rfl
  | _, _, .cons _ r => by simp [RowVs.length r]
theorem RowVs.at {kvs : List Value} : ∀ {vs : List Value} {ms : List Int}, RowVs kvs vs ms → ∀ i, i < ms.length → ∃ v, vs[i]? = some v ∧ kvs[(ms.getD i 0).toNat]? = some v
  | _, _, .nil, i, h => by simp at h
  | _, _, .cons h1 _, 0, _ => ⟨_, rfl, h1⟩
  | _, _, .cons _ r, i + 1, h => by
    obtain ⟨v, a, b⟩ := RowVs.at r i (by simpa using h)
    exact ⟨v, by simpa using a, by simpa using b⟩
theorem RowVs.snoc {kvs : List Value} {v : Value} {m : Int} (x : kvs[m.toNat]? = some v) : ∀ {vs : List Value} {ms : List Int}, RowVs kvs vs ms → RowVs kvs (vs ++ [v]) (ms ++ [m])
  | _, _, .nil => .cons x .nil
  | _, _, .cons h r => .cons h (RowVs.snoc x r)
def dbOf (kn : List Sign) : Db := ⟨fun c => (kn.getD (c - 8704).toNat s0).g, fun c => (kn.getD (c - 8704).toNat s0).i, fun c => (kn.getD (c - 8704).toNat s0).e⟩
def txOf (ms : List Int) : List Int := ms.map fun m => 8704 + m
def rowK (kn : List Sign) (ms : List Int) : List Sign := ms.map fun m => kn.getD m.toNat s0
theorem rowK_of (kn : List Sign) (ms : List Int) : rowOf (dbOf kn) (txOf ms) = rowK kn ms := by
  unfold rowOf txOf rowK
  rw [List.map_map]
  congr 1
  funext m
  show (⟨_, _, _⟩ : Sign) = _
  have e : (8704 + m - 8704 : Int).toNat = m.toNat := by congr 1; lia
  simp only [dbOf, e]
theorem rowK_get {kn : List Sign} {ms : List Int} {i : Nat} (h : i < ms.length) : (rowK kn ms).getD i s0 = kn.getD (ms.getD i 0).toNat s0 := by
  unfold rowK
  simp [List.getD_eq_getElem?_getD, h]
theorem row_at {kn : List Sign} {kvs ws : List Value} {ms : List Int} {tl news : List (Addr × Obj)} {h₀ h : Heap} {L ra : Addr} {n : Nat} (N : News h₀ L h news) (hr : (ra, W.listOf ws.toArray n) ∈ news) (ht : ∀ p ∈ tl, p ∈ news) (hk : SgsIn tl kvs kn) (hw : RowVs kvs ws ms) (hm : ∀ m ∈ ms, 0 ≤ m ∧ m < (kn.length : Int)) (hl : ms.length < 1000) : RowAt ra ws (rowK kn ms) h := by
  have l1 : (rowK kn ms).length = ms.length := List.length_map _
  refine ⟨⟨_, (N _ hr).1, rfl, n, rfl⟩, by rw [l1]; exact hw.length, by rw [l1]; exact hl, fun i hi => ?_⟩
  rw [l1] at hi
  obtain ⟨v, a, b⟩ := hw.at i hi
  have hmem : ms.getD i 0 ∈ ms := by rw [List.getD_eq_getElem?_getD, List.getElem?_eq_getElem hi]; exact List.getElem_mem hi
  have hlt := hm _ hmem
  obtain ⟨v', c, e⟩ := hk.at (ms.getD i 0).toNat (by lia)
  have : v' = v := Option.some.inj (c.symm.trans b)
  subst this
  exact ⟨v', a, by rw [rowK_get hi]; exact e.sign N ht⟩
def SgOk (s : Sign) : Prop := s.g ∈ kindsL ∧ (s.g = Str.ofString "LF" → s.i = Str.ofString "None" ∧ s.e = false)
theorem plain_ok : ∀ s ∈ plainL, SgOk s := by
  unfold SgOk
  decide +kernel
theorem gcbs_ok : ∀ g ∈ gcbsL, g ∈ kindsL ∧ g ≠ Str.ofString "LF" ∧ g.length ≤ 100 := by decide +kernel
theorem drawn_ok {g i : Str} {e : Bool} (h : g ∈ gcbsL) : SgOk ⟨g, i, e⟩ := ⟨(gcbs_ok g h).1, fun q => absurd q (gcbs_ok g h).2.1⟩
theorem tx_get {ms : List Int} {k : Nat} (h : k < ms.length) : (txOf ms).getD k 0 = 8704 + ms.getD k 0 := by
  unfold txOf
  simp [List.getD_eq_getElem?_getD, h]
theorem mem_getD {ms : List Int} {k : Nat} (h : k < ms.length) : ms.getD k 0 ∈ ms := by rw [List.getD_eq_getElem?_getD, List.getElem?_eq_getElem h]; exact List.getElem_mem h
theorem memS_getD {ms : List Sign} {k : Nat} (h : k < ms.length) : ms.getD k s0 ∈ ms := by rw [List.getD_eq_getElem?_getD, List.getElem?_eq_getElem h]; exact List.getElem_mem h
theorem sg_at {kn : List Sign} {ms : List Int} {k : Nat} (h : k < ms.length) : sg (dbOf kn) ((txOf ms).getD k 0) = kn.getD (ms.getD k 0).toNat s0 := by
  rw [tx_get h]
  show (⟨_, _, _⟩ : Sign) = _
  have e : (8704 + ms.getD k 0 - 8704 : Int).toNat = (ms.getD k 0).toNat := by congr 1; lia
  simp only [dbOf, e]
theorem kinds_of {kn : List Sign} {ms : List Int} (hk : ∀ s ∈ kn, SgOk s) (hm : ∀ m ∈ ms, 0 ≤ m ∧ m < (kn.length : Int)) : Kinds (dbOf kn) (txOf ms) := ⟨fun k h => by
  have h' : k < ms.length := by simpa [txOf] using h
  have h2 := hm _ (mem_getD h')
  have e : (dbOf kn).g ((txOf ms).getD k 0) = (kn.getD (ms.getD k 0).toNat s0).g := congrArg Sign.g (sg_at (kn := kn) h')
  rw [e]
  exact (hk _ (memS_getD (by lia))).1⟩
theorem txt_of {ms : List Int} {vs : List Value} (hi : IntsAre vs (txOf ms)) (hm : ∀ m ∈ ms, 0 ≤ m ∧ m < 16) (hl : ms.length < 1000) : Txt vs (txOf ms) where
  hi := hi
  hc := fun k h => by
    have h' : k < ms.length := by simpa [txOf] using h
    have h2 := hm _ (mem_getD h')
    rw [tx_get h']
    lia
  hl := by simpa [txOf] using hl
theorem sub_l {X Y : List (Addr × Obj)} : ∀ p ∈ X, p ∈ X ++ Y := fun _ h => List.mem_append_left _ h
theorem sub_r {X Y Z : List (Addr × Obj)} (h : ∀ p ∈ X, p ∈ Z) : ∀ p ∈ X, p ∈ Y ++ Z := fun p hp => List.mem_append_right _ (h p hp)
theorem sub_tail {X Z : List (Addr × Obj)} {a : Addr × Obj} (h : ∀ p ∈ X, p ∈ Z) : ∀ p ∈ X, p ∈ a :: Z := fun p hp => List.mem_cons_of_mem _ (h p hp)
theorem sub_app {X Y Z : List (Addr × Obj)} (h : ∀ p ∈ X, p ∈ Z) (h' : ∀ p ∈ Y, p ∈ Z) : ∀ p ∈ X ++ Y, p ∈ Z := fun p hp => (List.mem_append.mp hp).elim (h p) (h' p)
theorem news_sub {h₀ h : Heap} {L : Addr} {led l : List (Addr × Obj)} (N : News h₀ L h led) (hs : ∀ p ∈ l, p ∈ led) : News h₀ L h l := fun p hp => N p (hs p hp)
theorem DinitR.nd {w : World} {x dx : Addr} : ∀ mu, DinitR w x dx .none mu → (mu.map (·.1)).Nodup := by
  rintro mu ⟨-, df, mp, q, u, pp, ww, odf, omp, -, -, -, -, -, nd⟩
  exact nd
theorem PlainR.nd : ∀ r mu, PlainR r mu → (mu.map (·.1)).Nodup := by
  rintro r mu ⟨a, vs, n, tl, -, -, -, nd⟩
  exact nd
theorem StrNew.nd {xs : List Str} : ∀ r mu, StrNew xs r mu → (mu.map (·.1)).Nodup := by
  rintro r mu ⟨a, vs, n, -, rfl, -⟩
  simp
theorem deck_nd {w : World} : ∀ r mu, (∃ dk la od us n, r = Value.ref dk ∧ mu = dkL dk la od us n ∧ Deck w la od us ∧ @Ne Nat dk la ∧ (dk == sysModules) = false) → (mu.map (·.1)).Nodup := by
  rintro r mu ⟨dk, la, od, us, n, -, rfl, -, ne, -⟩
  have ne' : dk ≠ la := ne
  simp [dkL, ne']
theorem draw_nd {w : World} {dk la : Addr} {many : Int} (ne : @Ne Nat dk la) : ∀ r mu, DrawR w dk la many r mu → (mu.map (·.1)).Nodup := by
  rintro r mu ⟨-, od, vs, n, rfl, -⟩
  have ne' : dk ≠ la := ne
  simp [dkL, ne']
theorem nd_cons {a : Addr} {o : Obj} {led : List (Addr × Obj)} (l1 : ∀ p ∈ led, @LT.lt Nat _ p.1 a) (nd : (led.map (·.1)).Nodup) : (((a, o) :: led).map (·.1)).Nodup := by
  refine List.nodup_cons.mpr ⟨fun h => ?_, nd⟩
  obtain ⟨p, hp, e⟩ := List.mem_map.mp h
  exact absurd (l1 p hp) (by rw [e]; exact Nat.lt_irrefl _)
theorem nd_drop {x : Addr × Obj} {l : List (Addr × Obj)} (nd : ((x :: l).map (·.1)).Nodup) : (l.map (·.1)).Nodup := (List.nodup_cons.mp nd).2
theorem led_first {h₀ h : Heap} {L : Addr} {K P T A B C : List (Addr × Obj)} (N : News h₀ L h (K ++ ((P ++ T) ++ (A ++ (B ++ C))))) : News h₀ L h (K ++ (C ++ (B ++ (A ++ T)))) := fun p hp => N p (by
  simp only [List.mem_append] at hp ⊢
  rcases hp with h | h | h | h | h <;> simp [h])
theorem led_nd {K P T A B C : List (Addr × Obj)} (nd : ((K ++ ((P ++ T) ++ (A ++ (B ++ C)))).map (·.1)).Nodup) : ((K ++ (C ++ (B ++ (A ++ T)))).map (·.1)).Nodup :=
  nd_count nd fun a => by
    simp only [List.map_append, List.count_append]
    lia
theorem nd_mid {pre post : List (Addr × Obj)} {d : Addr} {o : Obj} (nd : ((pre ++ (d, o) :: post).map (·.1)).Nodup) : (∀ p ∈ pre, p.1 ≠ d) ∧ ∀ p ∈ post, p.1 ≠ d := by
  obtain ⟨_, h2, h3⟩ := nodup_split nd
  refine ⟨fun p hp => h3 p hp (d, o) (.head _), fun p hp e => ?_⟩
  have h4 := (List.nodup_cons.mp h2).1
  exact h4 (List.mem_map.mpr ⟨p, hp, e⟩)
theorem updF_nd {d : Addr} {o : Obj} {post : List (Addr × Obj)} : ∀ (pre : List (Addr × Obj)), ((pre ++ (d, o) :: post).map (·.1)).Nodup → UpdF d o (pre ++ (d, o) :: post) (fun o' => pre ++ (d, o') :: post)
  | [], nd => .head (nd_mid (pre := []) nd).2
  | p :: r, nd => .tail ((nd_mid (pre := p :: r) nd).1 p (.head _)) (updF_nd r (List.nodup_cons.mp nd).2)
theorem upd_nd {d : Addr} {o o' : Obj} {post : List (Addr × Obj)} : ∀ (pre : List (Addr × Obj)), ((pre ++ (d, o) :: post).map (·.1)).Nodup → Upd d o o' (pre ++ (d, o) :: post) (pre ++ (d, o') :: post)
  | [], nd => .head (nd_mid (pre := []) nd).2
  | p :: r, nd => .tail ((nd_mid (pre := p :: r) nd).1 p (.head _)) (upd_nd r (List.nodup_cons.mp nd).2)
theorem nd_set {d : Addr} {o o' : Obj} {pre post : List (Addr × Obj)} (nd : ((pre ++ (d, o) :: post).map (·.1)).Nodup) : ((pre ++ (d, o') :: post).map (·.1)).Nodup := by
  rw [List.map_append] at nd ⊢
  exact nd
theorem nd_tail {A X tl led : List (Addr × Obj)} {T : Addr} {o : Obj} {h₀ h : Heap} {L : Addr} (_N : News h₀ L h ((T, o) :: led)) (nd : ((A ++ (X ++ tl)).map (·.1)).Nodup) (l : ∀ p ∈ A ++ (X ++ tl), @LT.lt Nat _ p.1 T) : ((A ++ (X ++ (T, o) :: tl)).map (·.1)).Nodup :=
  nd_count (nd_cons (o := o) l nd) fun a => by
    simp only [List.map_cons, List.map_append, List.count_append, List.count_cons]
    lia
theorem append_nd {prog : Program} {w : World} {A : Around} {E : Value → Shared → Prop} {s : Shared} {h₀ : Heap} {L D : Addr} {m : Str → Option Value} {kvs : List Value} {n : Nat} {x : Value} {Q : Value → Shared → Prop} (pre post : List (Addr × Obj)) {led : List (Addr × Obj)} (F : Fr h₀ L s.heap m) (N : News h₀ L s.heap led) (hsub : ∀ p ∈ pre ++ (D, W.listOf kvs.toArray n) :: post, p ∈ led)
    (nd : ((pre ++ (D, W.listOf kvs.toArray n) :: post).map (·.1)).Nodup) (hz : kvs.length < 1000) (h : ∀ h', Fr h₀ L h' m → News h₀ L h' (pre ++ (D, W.listOf (kvs ++ [x]).toArray (n + 1)) :: post) → Q .none { s with heap := h' }) : wpAny (model prog w) A (call (.builtin "list.append") [.ref D, x]) Q E s := by
  refine append_K F (fun p hp => N p (hsub p hp)) (upd_nd pre nd) ?_ (by rw [PySem.sizeLine_eq, List.size_toArray]; lia)
  intro h' F' N'
  refine h h' F' ?_
  have e : kvs.toArray.push x = (kvs ++ [x]).toArray := by simp
  rw [← e]
  exact N'
theorem CtrM.useQ {w : World} {f : Addr} {d : Nat} {args : List Value} {mu : List (Addr × Obj)} {P : Heap → Prop} {R : Value → List (Addr × Obj) → Prop} (C : CtrM w f d args mu P R)
    {mean : ExcName → Option Value} {mg mb : Str → Option Value} {dp un : Nat} {gd : Option (List Code)} {cn : Str} {cs : Scope} {a : Addr} {ccd : Value} {cl : List (Str × Addr)} {outer : List Env} {A₀ : Around} {base h₀ : Heap} {L : Addr} {m : Str → Option Value} {s : Shared} {Q E : Value → Shared → Prop} (pre post : List (Addr × Obj)) {led : List (Addr × Obj)}
    (B : Below A₀ base outer h₀) (F : Fr h₀ L s.heap m) (X : (hd.heap_1 w.params).In h₀) (N : News h₀ L s.heap led) (hsub : ∀ p ∈ pre ++ (mu ++ post), p ∈ led) (nd : ((pre ++ (mu ++ post)).map (·.1)).Nodup) (T : Top view lv mean mg mb h₀) (hk : cs.kind = .function) (hP : P h₀) (hd : dp + d < recursionLimit) (hu : un + 8 * d < cLine) (hR : ∀ r mu', R r mu' → (mu'.map (·.1)).Nodup)
    (ret : ∀ r h' tk' mu', Fr h₀ L h' m → News h₀ L h' (pre ++ (mu' ++ post)) → ((pre ++ (mu' ++ post)).map (·.1)).Nodup → R r mu' → Q r { s with heap := h', toks := tk' }) :
    wpAny (model PySem.Challenge.rw_pq1305_01.row.prog w) (ktrTop dp un gd cn cs L a ccd cl outer) (call (.ref f) args) Q E s :=
  CtrM.useN C pre post B F X (fun p hp => N p (hsub p hp)) nd T hk hP hd hu hR ret
theorem strs_pick {vs : List Value} {names : List Str} (h : StrsAre vs names) {r : Int} (h0 : 0 ≤ r) (h1 : r < (names.length : Int)) : ∃ k t, k ∈ names ∧ vs[r.toNat]? = some (.str k t) := by
  have hi : r.toNat < names.length := by lia
  obtain ⟨t, e⟩ := h.get r.toNat _ (List.getElem?_eq_getElem hi)
  exact ⟨_, t, List.getElem_mem hi, e⟩
/-- phase two: the signs drawn -/
structure SA where
  kvs : List Value
  c : Nat
  tl : List (Addr × Obj)
  od : Obj
  us : List Value
  n : Nat
def LedA (ka kc dk la : Addr) (oc : Obj) (X : List (Addr × Obj)) (σ : SA) : List (Addr × Obj) := (ka, W.listOf σ.kvs.toArray σ.c) :: (kc, oc) :: (dk, σ.od) :: (la, W.listOf σ.us.toArray σ.n) :: (X ++ σ.tl)
def KA (w : World) (la : Addr) (i : Nat) (σ : SA) : Prop := ∃ kn, SgsIn σ.tl σ.kvs kn ∧ kn.length = 8 + i ∧ (∀ s ∈ kn, SgOk s) ∧ kn.getD 0 s0 = plainL.getD 0 s0 ∧ Deck w la σ.od σ.us
theorem KA.next {w : World} {la : Addr} {i : Nat} {kn : List Sign} {kvs : List Value} {c : Nat} {tl : List (Addr × Obj)} {od : Obj} {us : List Value} {n : Nat} {T : Addr} {o : Obj} {g ib : Str} {e : Bool} {t1 t2 : Tok} {nn : Nat} (h1 : SgsIn tl kvs kn) (h2 : kn.length = 8 + i) (h3 : ∀ s ∈ kn, SgOk s) (h4 : kn.getD 0 s0 = plainL.getD 0 s0) (h5 : Deck w la od us)
    (hg : g ∈ gcbsL) (hc : o.cls = .type "tuple") (hd : o.data = .seq #[.str g t1, .str ib t2, .bool e] nn) : KA w la (i + 1) ⟨kvs ++ [.ref T], c, (T, o) :: tl, od, us, n⟩ := by
  refine ⟨kn ++ [⟨g, ib, e⟩], SgsIn.snoc (fun p hp => List.mem_cons_of_mem _ hp) ⟨T, o, nn, t1, t2, rfl, .head _, hc, hd, (gcbs_ok g hg).2.2⟩ h1, by simp [h2]; lia, fun s hs => ?_, ?_, h5⟩
  · rcases List.mem_append.mp hs with hs | hs
    · exact h3 s hs
    · rw [List.mem_singleton.mp hs]; exact drawn_ok hg
  · rw [← h4]
    simp only [List.getD_eq_getElem?_getD]
    rw [List.getElem?_append_left (by lia)]
theorem pz0 {h₀ h : Heap} {L : Addr} {D P R T : List (Addr × Obj)} (N : News h₀ L h (P ++ (D ++ (R ++ (T))))) : News h₀ L h (D ++ (P ++ (R ++ (T)))) := fun p hp => N p (by
  simp only [List.mem_append] at hp ⊢
  rcases hp with h | h | h | h <;> simp [h])
theorem pz0_d {D P R T : List (Addr × Obj)} (nd : ((P ++ (D ++ (R ++ (T)))).map (·.1)).Nodup) : ((D ++ (P ++ (R ++ (T)))).map (·.1)).Nodup :=
  nd_count nd fun a => by
    simp only [List.map_append, List.count_append]
    lia
theorem pz1 {h₀ h : Heap} {L : Addr} {A D P R T : List (Addr × Obj)} (N : News h₀ L h ((A ++ D) ++ (P ++ (R ++ (T))))) : News h₀ L h (P ++ (D ++ (R ++ (A ++ (T))))) := fun p hp => N p (by
  simp only [List.mem_append] at hp ⊢
  rcases hp with h | h | h | h | h <;> simp [h])
theorem pz1_d {A D P R T : List (Addr × Obj)} (nd : (((A ++ D) ++ (P ++ (R ++ (T)))).map (·.1)).Nodup) : ((P ++ (D ++ (R ++ (A ++ (T))))).map (·.1)).Nodup :=
  nd_count nd fun a => by
    simp only [List.map_append, List.count_append]
    lia
theorem pz3 {h₀ h : Heap} {L : Addr} {A B D P R T : List (Addr × Obj)} (N : News h₀ L h ((B ++ D) ++ (P ++ (R ++ (A ++ (T)))))) : News h₀ L h (P ++ (D ++ (R ++ (A ++ (B ++ (T)))))) := fun p hp => N p (by
  simp only [List.mem_append] at hp ⊢
  rcases hp with h | h | h | h | h | h <;> simp [h])
theorem pz3_d {A B D P R T : List (Addr × Obj)} (nd : (((B ++ D) ++ (P ++ (R ++ (A ++ (T))))).map (·.1)).Nodup) : ((P ++ (D ++ (R ++ (A ++ (B ++ (T)))))).map (·.1)).Nodup :=
  nd_count nd fun a => by
    simp only [List.map_append, List.count_append]
    lia
theorem pz5 {h₀ h : Heap} {L : Addr} {A B D E P R T : List (Addr × Obj)} (N : News h₀ L h ((E ++ D) ++ (P ++ (R ++ (A ++ (B ++ (T))))))) : News h₀ L h (P ++ (D ++ (R ++ (A ++ (B ++ (E ++ (T))))))) := fun p hp => N p (by
  simp only [List.mem_append] at hp ⊢
  rcases hp with h | h | h | h | h | h | h <;> simp [h])
theorem pz5_d {A B D E P R T : List (Addr × Obj)} (nd : (((E ++ D) ++ (P ++ (R ++ (A ++ (B ++ (T)))))).map (·.1)).Nodup) : ((P ++ (D ++ (R ++ (A ++ (B ++ (E ++ (T))))))).map (·.1)).Nodup :=
  nd_count nd fun a => by
    simp only [List.map_append, List.count_append]
    lia
theorem po1 {h₀ h : Heap} {L : Addr} {A B D E P R T : List (Addr × Obj)} (N : News h₀ L h (P ++ (D ++ (R ++ (A ++ (B ++ (E ++ (T)))))))) : News h₀ L h ((A ++ D) ++ (P ++ (R ++ (B ++ (E ++ (T)))))) := fun p hp => N p (by
  simp only [List.mem_append] at hp ⊢
  rcases hp with (h|h) | h | h | h | h | h <;> simp [h])
theorem po1_d {A B D E P R T : List (Addr × Obj)} (nd : ((P ++ (D ++ (R ++ (A ++ (B ++ (E ++ (T))))))).map (·.1)).Nodup) : (((A ++ D) ++ (P ++ (R ++ (B ++ (E ++ (T)))))).map (·.1)).Nodup :=
  nd_count nd fun a => by
    simp only [List.map_append, List.count_append]
    lia
theorem pb1 {h₀ h : Heap} {L : Addr} {A B D E P R T : List (Addr × Obj)} (N : News h₀ L h ((A ++ D) ++ (P ++ (R ++ (B ++ (E ++ (T))))))) : News h₀ L h (P ++ (D ++ (R ++ (A ++ (B ++ (E ++ (T))))))) := fun p hp => N p (by
  simp only [List.mem_append] at hp ⊢
  rcases hp with h | h | h | h | h | h | h <;> simp [h])
theorem pb1_d {A B D E P R T : List (Addr × Obj)} (nd : (((A ++ D) ++ (P ++ (R ++ (B ++ (E ++ (T)))))).map (·.1)).Nodup) : ((P ++ (D ++ (R ++ (A ++ (B ++ (E ++ (T))))))).map (·.1)).Nodup :=
  nd_count nd fun a => by
    simp only [List.map_append, List.count_append]
    lia
theorem po2 {h₀ h : Heap} {L : Addr} {A B D E P R T : List (Addr × Obj)} (N : News h₀ L h (P ++ (D ++ (R ++ (A ++ (B ++ (E ++ (T)))))))) : News h₀ L h ((B ++ D) ++ (P ++ (R ++ (A ++ (E ++ (T)))))) := fun p hp => N p (by
  simp only [List.mem_append] at hp ⊢
  rcases hp with (h|h) | h | h | h | h | h <;> simp [h])
theorem po2_d {A B D E P R T : List (Addr × Obj)} (nd : ((P ++ (D ++ (R ++ (A ++ (B ++ (E ++ (T))))))).map (·.1)).Nodup) : (((B ++ D) ++ (P ++ (R ++ (A ++ (E ++ (T)))))).map (·.1)).Nodup :=
  nd_count nd fun a => by
    simp only [List.map_append, List.count_append]
    lia
theorem pb2 {h₀ h : Heap} {L : Addr} {A B D E P R T : List (Addr × Obj)} (N : News h₀ L h ((B ++ D) ++ (P ++ (R ++ (A ++ (E ++ (T))))))) : News h₀ L h (P ++ (D ++ (R ++ (A ++ (B ++ (E ++ (T))))))) := fun p hp => N p (by
  simp only [List.mem_append] at hp ⊢
  rcases hp with h | h | h | h | h | h | h <;> simp [h])
theorem pb2_d {A B D E P R T : List (Addr × Obj)} (nd : (((B ++ D) ++ (P ++ (R ++ (A ++ (E ++ (T)))))).map (·.1)).Nodup) : ((P ++ (D ++ (R ++ (A ++ (B ++ (E ++ (T))))))).map (·.1)).Nodup :=
  nd_count nd fun a => by
    simp only [List.map_append, List.count_append]
    lia
theorem po3 {h₀ h : Heap} {L : Addr} {A B D E P R T : List (Addr × Obj)} (N : News h₀ L h (P ++ (D ++ (R ++ (A ++ (B ++ (E ++ (T)))))))) : News h₀ L h ((E ++ D) ++ (P ++ (R ++ (A ++ (B ++ (T)))))) := fun p hp => N p (by
  simp only [List.mem_append] at hp ⊢
  rcases hp with (h|h) | h | h | h | h | h <;> simp [h])
theorem po3_d {A B D E P R T : List (Addr × Obj)} (nd : ((P ++ (D ++ (R ++ (A ++ (B ++ (E ++ (T))))))).map (·.1)).Nodup) : (((E ++ D) ++ (P ++ (R ++ (A ++ (B ++ (T)))))).map (·.1)).Nodup :=
  nd_count nd fun a => by
    simp only [List.map_append, List.count_append]
    lia
theorem pb3 {h₀ h : Heap} {L : Addr} {A B D E P R T : List (Addr × Obj)} (N : News h₀ L h ((E ++ D) ++ (P ++ (R ++ (A ++ (B ++ (T))))))) : News h₀ L h (P ++ (D ++ (R ++ (A ++ (B ++ (E ++ (T))))))) := fun p hp => N p (by
  simp only [List.mem_append] at hp ⊢
  rcases hp with h | h | h | h | h | h | h <;> simp [h])
theorem pb3_d {A B D E P R T : List (Addr × Obj)} (nd : (((E ++ D) ++ (P ++ (R ++ (A ++ (B ++ (T)))))).map (·.1)).Nodup) : ((P ++ (D ++ (R ++ (A ++ (B ++ (E ++ (T))))))).map (·.1)).Nodup :=
  nd_count nd fun a => by
    simp only [List.map_append, List.count_append]
    lia
theorem pk0 {h₀ h : Heap} {L : Addr} {K Q T X : List (Addr × Obj)} (N : News h₀ L h (K ++ (Q ++ (X ++ (T))))) : News h₀ L h (X ++ (K ++ (Q ++ (T)))) := fun p hp => N p (by
  simp only [List.mem_append] at hp ⊢
  rcases hp with h | h | h | h <;> simp [h])
theorem pk0_d {K Q T X : List (Addr × Obj)} (nd : ((K ++ (Q ++ (X ++ (T)))).map (·.1)).Nodup) : ((X ++ (K ++ (Q ++ (T)))).map (·.1)).Nodup :=
  nd_count nd fun a => by
    simp only [List.map_append, List.count_append]
    lia
theorem pkr {h₀ h : Heap} {L : Addr} {R D T : List (Addr × Obj)} (N : News h₀ L h (R ++ (D ++ T))) : News h₀ L h (D ++ (R ++ T)) := fun p hp => N p (by
  simp only [List.mem_append] at hp ⊢
  rcases hp with h | h | h <;> simp [h])
theorem pkr_d {R D T : List (Addr × Obj)} (nd : ((R ++ (D ++ T)).map (·.1)).Nodup) : ((D ++ (R ++ T)).map (·.1)).Nodup :=
  nd_count nd fun a => by
    simp only [List.map_append, List.count_append]
    lia
theorem tup_of {h₀ h : Heap} {L a : Addr} {o : Obj} {news : List (Addr × Obj)} {items : Array Value} {n : Nat} (N : News h₀ L h news) (hm : (a, o) ∈ news) (hc : o.cls = .type "tuple") (hd : o.data = .seq items n) : IsTup h a items := ⟨o, (N _ hm).1, hc, n, hd⟩
/-- phase three: the database filled -/
structure SB where
  omp : Obj
  ms : Option (MapS × MapS × MapS)
def mapsL (ms : Option (MapS × MapS × MapS)) (tl : List (Addr × Obj)) : List (Addr × Obj) :=
  match ms with
  | none => tl
  | some (a, b, e) => a.L ++ (b.L ++ (e.L ++ tl))
def LedB (d dd df mp : Addr) (q : Nat → Int) (u : Nat → Tok) (pp ww : Value) (odf : Obj) (R tl : List (Addr × Obj)) (σ : SB) : List (Addr × Obj) := daL d dd df mp q u pp ww odf σ.omp ++ (R ++ mapsL σ.ms tl)
def KB (w : World) (D : Db) : Nat → SB → Prop
  | 0, σ => σ.ms = none ∧ σ.omp.IsDictOf (PySem.strKind PySem.Challenge.rw_pq1305_01.row.prog w) []
  | n + 1, σ => ∃ a b e, σ.ms = some (a, b, e) ∧ σ.omp.IsDictOf (PySem.strKind PySem.Challenge.rw_pq1305_01.row.prog w) [(Str.ofString "gcb", .ref a.x), (Str.ofString "incb", .ref b.x), (Str.ofString "ep", .ref e.x)] ∧ a.Ok true (n + 1) (fun c => .s (D.g c)) ∧ b.Ok true (n + 1) (fun c => .s (D.i c)) ∧ e.Ok false (n + 1) (fun c => .b (D.e c))
theorem KB.step {w : World} {D : Db} {n : Nat} {a b e : MapS} {omp : Obj} {x1 x2 x3 : Addr} (e1 : a.x = x1) (e2 : b.x = x2) (e3 : e.x = x3) (h : omp.IsDictOf (PySem.strKind PySem.Challenge.rw_pq1305_01.row.prog w) [(Str.ofString "gcb", .ref x1), (Str.ofString "incb", .ref x2), (Str.ofString "ep", .ref x3)]) (oa : a.Ok true (n + 1) (fun c => .s (D.g c))) (ob : b.Ok true (n + 1) (fun c => .s (D.i c))) (oe : e.Ok false (n + 1) (fun c => .b (D.e c))) : KB w D (n + 1) ⟨omp, some (a, b, e)⟩ := by
  subst e1 e2 e3
  exact ⟨a, b, e, rfl, h, oa, ob, oe⟩
theorem db_get {kn : List Sign} {i : Nat} : (kn.getD (8704 + (i : Int) - 8704).toNat s0) = kn.getD i s0 := by
  congr 1
  lia
theorem db_g {kn : List Sign} {i : Nat} {t : Tok} : IsDv (.str (kn.getD i s0).g t) (.s ((dbOf kn).g (8704 + (i : Int)))) := by
  show (kn.getD i s0).g = (kn.getD (8704 + (i : Int) - 8704).toNat s0).g
  rw [db_get]
theorem db_i {kn : List Sign} {i : Nat} {t : Tok} : IsDv (.str (kn.getD i s0).i t) (.s ((dbOf kn).i (8704 + (i : Int)))) := by
  show (kn.getD i s0).i = (kn.getD (8704 + (i : Int) - 8704).toNat s0).i
  rw [db_get]
theorem db_e {kn : List Sign} {i : Nat} : IsDv (.bool (kn.getD i s0).e) (.b ((dbOf kn).e (8704 + (i : Int)))) := by
  show (kn.getD i s0).e = (kn.getD (8704 + (i : Int) - 8704).toNat s0).e
  rw [db_get]
theorem PutOld.nd {d dd df mp : Addr} {q : Nat → Int} {u : Nat → Tok} {pp ww : Value} {odf omp : Obj} {x : Addr} {isS : Bool} {n : Nat} {f : Int → Dv} : ∀ v mu, PutOld d dd df mp q u pp ww odf omp x isS n f v mu → (mu.map (·.1)).Nodup := by
  rintro v mu ⟨-, m, -, -, nd, -⟩
  exact nd
theorem PutNew.nd {w : World} {d dd df mp : Addr} {q : Nat → Int} {u : Nat → Tok} {pp ww : Value} {odf : Obj} {kvs : List (Str × Value)} {nm : Str} {isS : Bool} {f : Int → Dv} : ∀ v mu, PutNew w d dd df mp q u pp ww odf kvs nm isS f v mu → (mu.map (·.1)).Nodup := by
  rintro v mu ⟨-, m, omp, -, -, nd, -⟩
  exact nd
theorem freeze {w : World} {h₀ h : Heap} {L : Addr} {d dd df mp : Addr} {q : Nat → Int} {u : Nat → Tok} {pp ww : Value} {odf omp : Obj} {R tl : List (Addr × Obj)} {a b e : MapS} {D : Db} (N : News h₀ L h (daL d dd df mp q u pp ww odf omp ++ (R ++ (a.L ++ (b.L ++ (e.L ++ tl)))))) (nd : ((daL d dd df mp q u pp ww odf omp ++ (R ++ (a.L ++ (b.L ++ (e.L ++ tl))))).map (·.1)).Nodup)
    (hk : omp.IsDictOf (PySem.strKind PySem.Challenge.rw_pq1305_01.row.prog w) [(Str.ofString "gcb", .ref a.x), (Str.ofString "incb", .ref b.x), (Str.ofString "ep", .ref e.x)]) (lo : (mp == sysModules) = false) (oa : a.Ok true 16 (fun c => .s (D.g c))) (ob : b.Ok true 16 (fun c => .s (D.i c))) (oe : e.Ok false 16 (fun c => .b (D.e c))) :
    ∃ Z, News h₀ L h (R ++ Z) ∧ ((R ++ Z).map (·.1)).Nodup ∧ (∀ (h₀ h : Heap) (L : Addr), News h₀ L h Z → DataAt w d D h) ∧ (∀ p ∈ tl, p ∈ Z) ∧ ∃ od, (d, od) ∈ Z := by
  refine ⟨daL d dd df mp q u pp ww odf omp ++ (a.L ++ (b.L ++ (e.L ++ tl))), fun p hp => N p ?_, nd_count nd fun x => ?_, fun h₀ h L N => data_at (dd := dd) (df := df) (q := q) (u := u) (pp := pp) (ww := ww) (odf := odf) N ?_ ?_ ?_ ?_ hk lo D oa ob oe, fun p hp => ?_, ⟨_, List.mem_append_left _ (List.mem_cons_of_mem _ List.mem_cons_self)⟩⟩
  · simp only [List.mem_append] at hp ⊢
    rcases hp with h | h | h | h | h | h <;> simp [h]
  · simp only [List.map_append, List.count_append]
    lia
  · intro p hp; simp [hp]
  · intro p hp; simp [hp]
  · intro p hp; simp [hp]
  · intro p hp; simp [hp]
  · simp [hp]
theorem list_nil {prog : Program} {w : World} {A : Around} {E : Value → Shared → Prop} {s : Shared} {h₀ : Heap} {L : Addr} {m : Str → Option Value} {env : Env} {pos : Pos} {Q : Value → Shared → Prop} {led : List (Addr × Obj)} (F : Fr h₀ L s.heap m) (N : News h₀ L s.heap led) (nd : (led.map (·.1)).Nodup)
    (h : ∀ na h', Fr h₀ L h' m → News h₀ L h' ((na, W.listOf ([] : List Value).toArray 0) :: led) → (((na, W.listOf ([] : List Value).toArray 0) :: led).map (·.1)).Nodup → Q (.ref na) { s with heap := h' }) : wpAny (model prog w) A (eval (.List [] pos) env) Q E s := by
  refine wpAny_List (wpAny_items_nil ⟨Nat.zero_le _, h s.heap.objs.size _ (F.push _) (fun p hp => ?_) (nd_cons (fun p hp => Heap.lt_size (N p hp).1) nd)⟩)
  rcases List.mem_cons.mp hp with rfl | hp
  · exact ⟨Heap.get?_push_size _ rfl, Nat.ne_of_gt F.ns.lt, next_is_new F⟩
  · exact ⟨Heap.get?_push_of_some _ (N p hp).1, (N p hp).2⟩
/-- phase five: the numbers drawn -/
structure SC where
  ms : List Int
  vs : List Value
  c : Nat
  od : Obj
  us : List Value
  n : Nat
def LedC (na dk la : Addr) (M Z : List (Addr × Obj)) (σ : SC) : List (Addr × Obj) := (na, W.listOf σ.vs.toArray σ.c) :: (M ++ ((dk, σ.od) :: (la, W.listOf σ.us.toArray σ.n) :: Z))
def KC (w : World) (la : Addr) (i : Nat) (σ : SC) : Prop := IntsAre σ.vs σ.ms ∧ σ.ms.length = i ∧ (∀ m ∈ σ.ms, 0 ≤ m ∧ m < 16) ∧ Deck w la σ.od σ.us
theorem KC.next {w : World} {la : Addr} {i : Nat} {vs : List Value} {ms : List Int} {od : Obj} {us : List Value} {n c : Nat} {v : Int} {t : Tok} (h1 : IntsAre vs ms) (h2 : ms.length = i) (h3 : ∀ m ∈ ms, 0 ≤ m ∧ m < 16) (h4 : Deck w la od us) (h5 : 0 ≤ v ∧ v < 16) : KC w la (i + 1) ⟨ms ++ [v], vs ++ [.int v t], c, od, us, n⟩ := by
  refine ⟨IntsAre.append h1 (.cons _ _ .nil), by simp [h2], fun m hm => ?_, h4⟩
  rcases List.mem_append.mp hm with hm | hm
  · exact h3 m hm
  · rw [List.mem_singleton.mp hm]; exact h5
section
variable {prog : Program} {w : World} {A : Around} {h₀ : Heap} {L : Addr} {m : Str → Option Value} {env : Env} {elt : PySem.Expr} {x : Str} {scope : Scope} {cl : List (Str × Addr)} {s : Shared} {S : List (Addr × Obj) → Prop} {P : Nat → Value → Prop} {Fin : List Value → List (Addr × Obj) → Prop} {news : List (Addr × Obj)}
/-- a comprehension without a test, over ints, its items drawn from a list -/
theorem restR {n : Nat} {ks : List Int} (kvs : List Value) (hks : ks.length = n) (hP : ∀ i v, i < n → P i v → ∃ k t, ks[i]? = some k ∧ v = .int k t) (hS : S news)
    (elem : ∀ k t I oI C oC D m₂ ys h tk (E' : Value → Shared → Prop), k ∈ ks → LCg.NsObj oC m₂ → m₂ x = some (.int k t) → Fr h₀ L h m → News h₀ L h ((I, oI) :: (C, oC) :: (D, LCg.lst ys) :: news) → LCg.Off3 I C D news → ((@Ne Nat I C) ∧ (@Ne Nat I D) ∧ (@Ne Nat C D)) →
      wpAny (model prog w) A (eval elt (compEnvC scope cl C env)) (ElemEnd h₀ L m ((I, oI) :: (C, oC) :: (D, LCg.lst ys) :: news) { s with heap := h, toks := tk } (fun y => kvs[k.toNat]? = some y)) E' { s with heap := h, toks := tk })
    (fin : ∀ ys, RowVs kvs ys ks → Fin ys news) : LCg.CompRest prog w A h₀ L m env elt x scope cl s S P Fin n 0 [] news := by
  have key : ∀ (j i : Nat) (ys : List Value), i + j = n → RowVs kvs ys (ks.take i) → LCg.CompRest prog w A h₀ L m env elt x scope cl s S P Fin j i ys news := by
    intro j
    induction j with
    | zero =>
      intro i ys hi hy
      have e : i = ks.length := by lia
      subst e
      rw [List.take_length] at hy
      exact LCg.CompRest.zero (fin ys hy)
    | succ j ih =>
      intro i ys hi hy
      refine LCg.CompRest.succ ?_
      intro v I oI C oC D m₂ h tk E' hv hC hx F N off ne
      obtain ⟨k, t, hk, hv'⟩ := hP i v (by lia) hv
      rw [hv'] at hx
      refine wpAny_mono (elem k t I oI C oC D m₂ ys h tk E' (List.mem_of_getElem? hk) hC hx F N off ne) (fun y s₂ hq => ?_) fun _ _ e => e
      obtain ⟨hy', h', tk', e, F', N'⟩ := hq
      subst e
      refine ⟨h', tk', news, rfl, F', N', off, hS, ?_⟩
      refine ih (i + 1) _ (by lia) ?_
      rw [List.take_add_one, hk]
      exact RowVs.snoc hy' hy
  exact key n 0 [] (by lia) (by simp only [List.take_zero]; exact .nil)
end
theorem all_at {w : World} {h₀ h : Heap} {L d ta ra : Addr} {led Z tl : List (Addr × Obj)} {D : Db} {tv kvs rv : List Value} {kn : List Sign} {ms : List Int} (N : News h₀ L h led) (hz : ∀ p ∈ Z, p ∈ led) (ht : (ta, LCg.lst tv) ∈ led) (hr : (ra, LCg.lst rv) ∈ led) (hZd : ∀ (h₀ h : Heap) (L : Addr), News h₀ L h Z → DataAt w d D h) (hZt : ∀ p ∈ tl, p ∈ Z) (hk : SgsIn tl kvs kn) (hw : RowVs kvs rv ms) (hm : ∀ m ∈ ms, 0 ≤ m ∧ m < (kn.length : Int)) (hl : ms.length < 1000) :
    TextAt w d D ta tv h ∧ RowAt ra rv (rowK kn ms) h :=
  ⟨⟨hZd _ _ _ fun p hp => N p (hz p hp), ⟨_, (N _ ht).1, rfl, _, rfl⟩⟩, row_at (n := rv.length) N hr (fun p hp => hz p (hZt p hp)) hk hw hm hl⟩
theorem pl_all {kn : List Sign} {ms : List Int} (hk : ∀ s ∈ kn, SgOk s) (hm : ∀ m ∈ ms, 0 ≤ m ∧ m < (kn.length : Int)) (leg : Bool) : PlOk (dbOf kn) (txOf ms) (rowK kn ms) leg := by
  rw [← rowK_of kn ms]
  exact pl_ok (kinds_of hk hm) leg
theorem tx_len (ms : List Int) : (txOf ms).length = ms.length := List.length_map _
theorem row_lenK (kn : List Sign) (ms : List Int) : (rowK kn ms).length = ms.length := List.length_map _
/-- a loop over a made tuple of bools that changes nothing made -/
theorem mt_bools {prog : Program} {w : World} {A : Around} {E : Value → Shared → Prop} {s : Shared} {env : Env} {h₀ : Heap} {body : List Stmt} {Q : Flow → Shared → Prop} {x : Str} {px : Pos} {T : Addr} {nn : Nat} {dd : Option Addr} {sl : Array (Option Value)} {items : List Value} {m₀ : Str → Option Value} (Led : List (Addr × Obj))
    (F : Fr h₀ env.locals s.heap m₀) (N : News h₀ env.locals s.heap Led) (hm : (T, (⟨.type "tuple", dd, .seq items.toArray nn, sl⟩ : Obj)) ∈ Led) (hh : A.handled = none) (hb : ∀ v ∈ items, ∃ b, v = .bool b)
    (turn : ∀ b (u : Str → Option Value) h tk I oI, (∀ p ∈ Led, @LT.lt Nat _ p.1 I) → Fr h₀ env.locals h (fun z => if [x].contains z then u z else m₀ z) → News h₀ env.locals h ((I, oI) :: Led) →
      wpAny (model prog w) A (assign (.Name x px) env (.bool b)) (fun _ s₃ => wpAny (model prog w) A (execs body env) (TurnG h₀ env.locals { s with heap := h, toks := tk } Q [(I, oI)] (fun _ : Unit => Led) (fun _ => []) [x] m₀ (fun _ => True)) E s₃) E { s with heap := h, toks := tk })
    (done : ∀ (u : Str → Option Value) h tk, Fr h₀ env.locals h (fun z => if [x].contains z then u z else m₀ z) → News h₀ env.locals h Led → Q .next { s with heap := h, toks := tk }) :
    wpAny (model prog w) A (pyIter (.ref T)) (fun it s₂ => TurnsAt prog w A h₀ env (.Name x px) body Q E it s₂) E s := by
  have hT := N _ hm
  have hl : s.heap.IsTuple T items.toArray := ⟨_, hT.1, rfl, nn, rfl⟩
  have hlt : @LT.lt Nat _ T s.heap.objs.size := Heap.lt_size hT.1
  have hall : ∀ p ∈ Led, @LT.lt Nat _ p.1 s.heap.objs.size := fun p hp => Heap.lt_size (N p hp).1
  refine wpAny_pyIter_tuple hl ?_
  have W := KTurns.ofWalks (target := .Name x px) (Walks.tuple (prog := prog) (w := w) hh s.heap.objs.size T (Nat.ne_of_lt hlt) items.toArray) (fun i v s Q E st q => wpAny_pure q)
  refine mt_core (tk0 := s.toks) W [s.heap.objs.size] (fun _ : Unit => Led) (fun _ => []) [x] (fun _ _ => True) () ?_ (fun b hb => hb) ?_ ?_ ?_ ?_ (F.push _) (fun p hp => ⟨Heap.get?_push_of_some _ (N p hp).1, (N p hp).2⟩) ?_ (List.forall_mem_nil _) trivial ?_ ?_
  · intro hm'
    rcases List.mem_cons.mp hm' with e | hm'
    · exact absurd F.ns.lt (e ▸ Nat.lt_irrefl _)
    · exact hT.2.1 (List.mem_singleton.mp hm').symm
  · intro b hb
    exact ⟨by rw [List.mem_singleton.mp hb]; exact List.mem_cons_self, by rw [List.mem_singleton.mp hb]; exact next_is_new F⟩
  · rintro i h ⟨⟨oi, hoi, _⟩, _⟩
    exact ⟨[(s.heap.objs.size, oi)], rfl, fun p hp => by rw [List.mem_singleton.mp hp]; exact hoi⟩
  · intro b hb
    rcases List.mem_cons.mp hb with rfl | hb
    · exact .inl List.mem_cons_self
    · rw [List.mem_singleton.mp hb]
      exact .inr (.inr ⟨_, fun c => hm⟩)
  · exact ⟨⟨_, Heap.get?_push_size _ rfl, rfl, rfl⟩, hl.at fun o e => Heap.get?_push_of_some _ e⟩
  · intro p hp hI
    exact absurd (hall p hp) ((List.mem_singleton.mp hI) ▸ Nat.lt_irrefl _)
  · rintro i v c u h tk own hi hv hk' hown hne F₁ N₁
    obtain ⟨⟨I, oI⟩, rfl⟩ := mt_one hown
    have eI : I = s.heap.objs.size := by have := hown; simpa using this
    have hv' : items[i]? = some v := by simpa using hv
    obtain ⟨b, rfl⟩ := hb v (List.mem_of_getElem? hv')
    have hx : ∀ p ∈ Led, @LT.lt Nat _ p.1 I := fun p hp => by rw [eI]; exact hall p hp
    refine wpAny_mono (turn b u h tk I oI hx F₁ N₁) (fun _ s₂ h₂ => wpAny_mono h₂ (fun f s₃ p => p.toF fun c' p hp q hq => ?_) fun _ _ e => e) fun _ _ e => e
    rw [List.mem_singleton.mp hq]
    exact Nat.ne_of_lt (hx p hp)
  · intro c u h tk hk' F₁ N₁
    exact done u h tk F₁ N₁
theorem two_bools : ∀ v ∈ [Value.bool false, Value.bool true], ∃ b, v = .bool b := by
  intro v hv
  rcases List.mem_cons.mp hv with rfl | hv
  · exact ⟨_, rfl⟩
  · rw [List.mem_singleton.mp hv]; exact ⟨_, rfl⟩
/-- a row's sign, where it lies -/
theorem row_sign {kn : List Sign} {kvs rv : List Value} {ms : List Int} {tl Z : List (Addr × Obj)} (hZt : ∀ p ∈ tl, p ∈ Z) (hk : SgsIn tl kvs kn) (hw : RowVs kvs rv ms) (hm : ∀ m ∈ ms, 0 ≤ m ∧ m < (kn.length : Int)) {i : Nat} (hi : i < ms.length) :
    ∃ a o n t1 t2, rv[i]? = some (.ref a) ∧ (a, o) ∈ Z ∧ o.cls = .type "tuple" ∧ o.data = .seq #[.str ((rowK kn ms).getD i s0).g t1, .str ((rowK kn ms).getD i s0).i t2, .bool ((rowK kn ms).getD i s0).e] n := by
  obtain ⟨v, a, b⟩ := hw.at i hi
  have hlt := hm _ (mem_getD hi)
  obtain ⟨v', c, a', o, n, t1, t2, e, m, h2, h3, h4⟩ := hk.at (ms.getD i 0).toNat (by lia)
  have : v' = v := Option.some.inj (c.symm.trans b)
  subst this
  subst e
  exact ⟨a', o, n, t1, t2, a, hZt _ m, h2, by rw [rowK_get hi]; exact h3⟩
theorem name2 {h₀ h : Heap} {L : Addr} {x : Addr × Obj} {a b : Addr} {oa ob : Obj} {Y : List (Addr × Obj)} (_N : News h₀ L h (x :: (a, oa) :: (b, ob) :: Y)) : ∃ p q, p = a ∧ q = b := ⟨a, b, rfl, rfl⟩
theorem tx_item {tv : List Value} {ms : List Int} (h : IntsAre tv (txOf ms)) {i : Nat} (hi : i < ms.length) : ∃ t, tv[i]? = some (.int ((txOf ms).getD i 0) t) := by
  have h' : i < (txOf ms).length := by rw [tx_len]; exact hi
  refine h.get i _ ?_
  rw [List.getD_eq_getElem?_getD, List.getElem?_eq_getElem h']
  rfl
theorem cut_sure {kn : List Sign} {ms : List Int} (hk : ∀ s ∈ kn, SgOk s) (hm : ∀ m ∈ ms, 0 ≤ m ∧ m < (kn.length : Int)) {i : Nat} (hi : i + 1 < ms.length) (hs : sure (dbOf kn) ((txOf ms).getD i 0) ((txOf ms).getD (i + 1) 0) = true) : cutR (rowK kn ms) (1 + (i : Int)) false = true := by
  rw [← rowK_of kn ms]
  refine sure_cut (kinds_of hk hm) (by lia) (by rw [tx_len]; lia) ?_
  rw [show (1 + (i : Int) - 1).toNat = i by lia, show (1 + (i : Int)).toNat = i + 1 by lia]
  exact hs
theorem g_at {kn : List Sign} {ms : List Int} {i : Nat} (h : i < ms.length) : (dbOf kn).g ((txOf ms).getD i 0) = ((rowK kn ms).getD i s0).g ∧ (dbOf kn).i ((txOf ms).getD i 0) = ((rowK kn ms).getD i s0).i ∧ (dbOf kn).e ((txOf ms).getD i 0) = ((rowK kn ms).getD i s0).e := by
  have e := sg_at (kn := kn) h
  rw [← rowK_get h] at e
  exact ⟨congrArg Sign.g e, congrArg Sign.i e, congrArg Sign.e e⟩
theorem ok_at {kn : List Sign} {ms : List Int} (hk : ∀ s ∈ kn, SgOk s) (hm : ∀ m ∈ ms, 0 ≤ m ∧ m < (kn.length : Int)) {i : Nat} (h : i < ms.length) : SgOk ((rowK kn ms).getD i s0) := by
  rw [rowK_get h]
  have := hm _ (mem_getD h)
  exact hk _ (memS_getD (by lia))
theorem unsure_lf {kn : List Sign} {ms : List Int} (hk : ∀ s ∈ kn, SgOk s) (hm : ∀ m ∈ ms, 0 ≤ m ∧ m < (kn.length : Int)) {i : Nat} (hi : i + 1 < ms.length) (hs : sure (dbOf kn) ((txOf ms).getD i 0) ((txOf ms).getD (i + 1) 0) = false)
    (h1 : ([((rowK kn ms).getD i s0).g, ((rowK kn ms).getD (i + 1) s0).g].any fun x => x == Str.ofString "LF") = true) (h2 : (((rowK kn ms).getD i s0).g != Str.ofString "CR") = true) : False := by
  obtain ⟨a1, a2, a3⟩ := g_at (kn := kn) (ms := ms) (i := i) (by lia)
  obtain ⟨b1, b2, b3⟩ := g_at (kn := kn) (ms := ms) (i := i + 1) hi
  have := sure_lf (D := dbOf kn) (l := (txOf ms).getD i 0) (r := (txOf ms).getD (i + 1) 0) (fun q => by rw [a1] at q; rw [a2, a3]; exact (ok_at hk hm (by lia)).2 q) (fun q => by rw [b1] at q; rw [b2]; exact ((ok_at hk hm hi).2 q).1) (by
    rw [a1, b1]
    simpa using h1) (by rw [a1]; simpa using h2)
  rw [hs] at this
  cases this
theorem unsure_plain {kn : List Sign} {ms : List Int} {i : Nat} (hi : i + 1 < ms.length) (hs : sure (dbOf kn) ((txOf ms).getD i 0) ((txOf ms).getD (i + 1) 0) = false) (h1 : (rowK kn ms).getD i s0 = plainL.getD 0 s0) (h2 : (rowK kn ms).getD (i + 1) s0 = plainL.getD 0 s0) : False := by
  have := sure_plain (D := dbOf kn) (l := (txOf ms).getD i 0) (r := (txOf ms).getD (i + 1) 0) (by rw [sg_at (by lia), ← rowK_get (by lia)]; exact h1) (by rw [sg_at hi, ← rowK_get hi]; exact h2)
  rw [hs] at this
  cases this
theorem safe_all {kn : List Sign} {ms : List Int} (hk : ∀ s ∈ kn, SgOk s) (hm : ∀ m ∈ ms, 0 ≤ m ∧ m < (kn.length : Int)) {i : Nat} (hi : i ≤ ms.length) : 0 ≤ safe (dbOf kn) (txOf ms) i ∧ safe (dbOf kn) (txOf ms) i ≤ i ∧ (ms.length ≠ 0 → safe (dbOf kn) (txOf ms) i < ms.length → cutR (rowK kn ms) (safe (dbOf kn) (txOf ms) i) false = true) := by
  obtain ⟨a, b, c⟩ := safe_law (kinds_of hk hm) i (by rw [tx_len]; exact hi)
  rw [rowK_of, tx_len] at c
  refine ⟨a, b, fun h1 h2 => c (fun e => h1 ?_) h2⟩
  rw [← tx_len ms, e]
  rfl
def same (x y : Sign) : Bool := (x.g == y.g) && ((x.i == y.i) && (x.e == y.e))
theorem same_eq {x y : Sign} (h : same x y = true) : x = y := by
  unfold same at h
  simp only [Bool.and_eq_true, beq_iff_eq] at h
  cases x; cases y
  simp_all
theorem same_refl (x : Sign) : same x x = true := by simp [same]
theorem sg_eq {A : Around} {s : Shared} {a b : Addr} {x y : Sign} {t1 t2 u1 u2 : Tok} (ha : s.heap.IsTuple a #[.str x.g t1, .str x.i t2, .bool x.e]) (hb : s.heap.IsTuple b #[.str y.g u1, .str y.i u2, .bool y.e]) (hu : A.units < cLine) : SeqAt.EqAt A s (.ref a) (.ref b) (same x y) := by
  by_cases e : a = b
  · subst e
    have hxy : x = y := by
      obtain ⟨o, h1, _, n, h2⟩ := ha
      obtain ⟨o', h1', _, n', h2'⟩ := hb
      have eo : o = o' := Option.some.inj (h1.symm.trans h1')
      subst eo
      have h3 := h2.symm.trans h2'
      injection h3 with h4 h5
      have h6 := congrArg Array.toList h4
      simp only [List.cons.injEq, Value.str.injEq, Value.bool.injEq, and_true] at h6
      cases x; cases y
      simp_all
    subst hxy
    rw [same_refl]
    exact SeqAt.EqAt.same _
  · refine SeqAt.EqAt.of_refs e ?_
    have key := SeqAt.RcAt.tuples (A := A) (e := fun j => if j = 0 then x.g == y.g else if j = 1 then x.i == y.i else x.e == y.e) ha hb hu (fun j h1 h2 => by
      match j, h1, h2 with
      | 0, _, _ => exact SeqAt.EqAt.str_str _ _ _ _
      | 1, _, _ => exact SeqAt.EqAt.str_str _ _ _ _
      | 2, _, _ => exact SeqAt.EqAt.bool_bool _ _)
    have e2 : ((List.range (min (#[Value.str x.g t1, Value.str x.i t2, Value.bool x.e] : Array Value).size (#[Value.str y.g u1, Value.str y.i u2, Value.bool y.e] : Array Value).size)).all (fun j => if j = 0 then x.g == y.g else if j = 1 then x.i == y.i else x.e == y.e) && ((#[Value.str x.g t1, Value.str x.i t2, Value.bool x.e] : Array Value).size == (#[Value.str y.g u1, Value.str y.i u2, Value.bool y.e] : Array Value).size)) = same x y := by
      simp [List.range_succ, same]
    rw [e2] at key
    exact key
theorem eq_rows {prog : Program} {w : World} {A : Around} {E : Value → Shared → Prop} {s : Shared} {l b aL aR a0 : Addr} {x y z : Sign} {t1 t2 t3 t4 u1 u2 : Tok} {Q : Value → Shared → Prop} (hl : s.heap.IsList l [Value.ref aL, Value.ref aR].toArray) (hb : s.heap.IsList b [Value.ref a0, Value.ref a0].toArray)
    (hL : IsTup s.heap aL #[.str x.g t1, .str x.i t2, .bool x.e]) (hR : IsTup s.heap aR #[.str y.g t3, .str y.i t4, .bool y.e]) (h0 : IsTup s.heap a0 #[.str z.g u1, .str z.i u2, .bool z.e]) (hu : A.units < cLine) (hu2 : A.in1.units < cLine) (h : Q (.bool (same x z && same y z)) s) : wpAny (model prog w) A (compareOp .Eq (.ref l) (.ref b)) Q E s := by
  refine SeqAt.eq_listAt (e := fun j => if j = 0 then same x z else same y z) hl hb rfl hu (fun j h1 h2 => ?_) ?_
  · match j, h1, h2 with
    | 0, _, _ => exact sg_eq hL h0 hu2
    | 1, _, _ => exact sg_eq hR h0 hu2
  · have e : ([Value.ref aL, Value.ref aR].toArray.size) = 2 := rfl
    rw [e]
    have e2 : ((List.range 2).all fun j => if j = 0 then same x z else same y z) = (same x z && same y z) := by simp [List.range_succ]
    rw [e2]
    exact h
theorem slice2 {rv : List Value} {i : Nat} {a b : Value} (h1 : rv[i]? = some a) (h2 : rv[i + 1]? = some b) {x y : Int} (hx : x = (i : Int)) (hy : y = ((i + 2 : Nat) : Int)) : (slicePick rv.toArray (some x) (some y) none).toList = [a, b] := by
  subst hx hy
  have l2 := (List.getElem?_eq_some_iff.mp h2).1
  rw [slicePick_run _ _ _ (by rw [List.size_toArray]; lia) (by lia)]
  simp only [show i + 2 - i = 2 by lia]
  obtain ⟨l1, e1⟩ := List.getElem?_eq_some_iff.mp h1
  obtain ⟨_, e2⟩ := List.getElem?_eq_some_iff.mp h2
  rw [List.drop_eq_getElem_cons l1, List.drop_eq_getElem_cons l2, e1, e2]
  rfl
theorem unsure_same {kn : List Sign} {ms : List Int} {i : Nat} (hi : i + 1 < ms.length) (hs : sure (dbOf kn) ((txOf ms).getD i 0) ((txOf ms).getD (i + 1) 0) = false) (hz : kn.getD 0 s0 = plainL.getD 0 s0) : (same ((rowK kn ms).getD i s0) (kn.getD 0 s0) && same ((rowK kn ms).getD (i + 1) s0) (kn.getD 0 s0)) = false := by
  rcases h : (same ((rowK kn ms).getD i s0) (kn.getD 0 s0) && same ((rowK kn ms).getD (i + 1) s0) (kn.getD 0 s0)) with _ | _
  · rfl
  · rw [Bool.and_eq_true] at h
    exact (unsure_plain hi hs ((same_eq h.1).trans hz) ((same_eq h.2).trans hz)).elim
theorem kst_nil (m : Str → Option Value) : kstB m [] = m := rfl
theorem hr_nil {stored : List Str} {u m₀ : Str → Option Value} {P : Str → Prop} : ∀ z, P z → stored.contains z = false → kstB (fun z => if stored.contains z = true then u z else m₀ z) [] z = m₀ z := fun z _ h => by
  show (if stored.contains z = true then u z else m₀ z) = m₀ z
  rw [h]
  simp
theorem hr_nil' {stored : List Str} {u m₀ : Str → Option Value} {P : Str → Prop} : ∀ z, P z → stored.contains z = false → (if stored.contains z = true then u z else m₀ z) = m₀ z := fun z _ h => by
  rw [h]
  simp
theorem hr_cons {stored : List Str} {f m₀ : Str → Option Value} {P : Str → Prop} {n : Str} {v : Option Value} (hn : stored.contains n = true) (h : ∀ z, P z → stored.contains z = false → f z = m₀ z) : ∀ z, P z → stored.contains z = false → (if z = n then v else f z) = m₀ z := fun z h2 h3 => by
  rw [if_neg (fun e => by subst e; rw [hn] at h3; cases h3)]
  exact h z h2 h3
local macro_rules | `(tactic| walk_at "storeName") => `(tactic| k_extra "@storeName")
local macro_rules | `(tactic| walk_at "exec For Tuple Call cons nil") => `(tactic| k_extra "@exec For Tuple Call cons nil")
local macro_rules | `(tactic| walk_at "eval List") => `(tactic| k_extra "@eval List")
local macro_rules | `(tactic| walk_at "assign Tuple") => `(tactic| k_extra "@assign Tuple")
local macro_rules | `(tactic| walk_at "newTuple") => `(tactic| k_extra "@newTuple")
local macro_rules | `(tactic| walk_at "call builtin:list.append") => `(tactic| k_extra "@call builtin:list.append")
theorem law_raises (ns : List Int) : ∀ ct ∈ PySem.Challenge.rw_pq1305_01.row.raises, WTm.holds PySem.Challenge.rw_pq1305_01.row.records ct.2 { args := [ofPy (PyData.list (List.map PyData.int ns))] } = false := by wrow_none_raised
theorem law_post (ns : List Int) : PySem.Challenge.rw_pq1305_01.row.claim.post [ofPy (PyData.list (List.map PyData.int ns))] (WData.bool true) [ofPy (PyData.list (List.map PyData.int ns))] = true := by wrow_post
theorem law_holds : PySem.Challenge.rw_pq1305_01.Holds := hd (by
  w_top off
  k_go0
  all_goals try k_fold
  k_with_none
  k_with "@KswEnd" => ((k_here; k_extra "wend"))
  k_with "@exec While Compare cons nil" => ((k_here; k_extra "while"))
  k_with "@exec While BoolOp cons nil" => ((k_here; k_extra "while"))
  k_with "@compareOp In str ref" => ((k_here; (with_reducible show wpAny _ _ (compareOp CmpOp.In (Value.str _ _) (Value.ref _)) _ _ _); k_dflt (refine' in_tuple_strs (topTup (by k_asm) (by k_asm) ?e_q9) ?k2_q9 ?_; (case e_q9 => k_is); (case k2_q9 => (repeat constructor); done))))
  k_with "@subscriptTail" => ((k_here; (with_reducible show wpAny _ _ (subscriptTail _ _ (Value.ref _) (Value.int _ _)) _ _ _); (with_unfolding_all refine' my_item ?k1_q9 ?k2_q9 ?k3_q9 ?k4_q9 ?_ ?k6_q9; (case k4_q9 => assumption); (case k1_q9 => is_list); (case k2_q9 => lia); (case k3_q9 => lia); (case k6_q9 => with_unfolding_all rfl); k_whole)))
  k_with "@compareOp In str ref" => ((k_here; (with_reducible show wpAny _ _ (compareOp CmpOp.In (Value.str _ _) (Value.ref _)) _ _ _); k_dflt (first
      | refine inG (dG (by k_asm) (by assumption) (by assumption)) (by assumption) true (by first | rfl | exact some_is (by assumption)) ?_
      | refine inG (dG (by k_asm) (by assumption) (by assumption)) (by assumption) false (by rfl) ?_)))
  k_with "@subscriptTail" => ((k_here; (with_reducible show wpAny _ _ (subscriptTail _ _ (Value.ref _) (Value.str _ _)) _ _ _); k_dflt (refine itemG (dG (by k_asm) (by assumption) (by assumption)) (by first | rfl | assumption) ?_)))
  k_with "@getMethod ref" => ((k_here; (with_reducible show wpAny _ _ (getMethod (Value.ref _) (Str.ofString "get") _) _ _ _); k_dflt (refine getM_data (by k_asm) (by k_asm) (by with_reducible assumption) ?_)))
  k_with "@compareOp NotIn str ref" => ((k_here; (with_reducible show wpAny _ _ (compareOp CmpOp.NotIn (Value.str _ _) (Value.ref _)) _ _ _); k_dflt (refine' notin_tuple_strs (topTup (by k_asm) (by k_asm) ?e_q9) ?k2_q9 ?_; (case e_q9 => k_is); (case k2_q9 => (repeat constructor); done))))
  k_with "@eval BoolOp" => ((k_here; k_extra "bool"))
  k_with "@eval ListComp" => ((k_here; k_dflt (first
      | refine LCt.ListComp_T (F₀ := by k_asm) (by with_unfolding_all rfl) (by decide) (by rfl) (by decide) (by rfl) ?_
      | refine LCg.ListComp_U (F₀ := by k_asm) (by with_unfolding_all rfl) (by decide) (by rfl) (by decide) (by rfl) ?_)))
  k_with "@exec Assign cons ListComp" => ((k_here; k_dflt (first
      | refine LCt.Assign_ListComp_T (F₀ := by k_asm) (by rfl) (by with_unfolding_all rfl) (by with_unfolding_all rfl) (by decide) (by rfl) (by decide) (by rfl) (by rfl) (by rfl) ?_
      | refine LCg.Assign_ListComp_U (F₀ := by k_asm) (by rfl) (by with_unfolding_all rfl) (by with_unfolding_all rfl) (by decide) (by rfl) (by decide) (by rfl) (by rfl) (by rfl) ?_)))
  k_with "@binaryOp Add ref ref" => ((k_here; k_extra "add"))
  k_with "@CompSrcT" => ((k_here; k_extra "src"))
  k_with "@CompSrc" => ((k_here; k_extra "src"))
  k_with "@eval ListComp" => ((k_here; k_extra "lcE"))
  k_with "@exec Assign cons ListComp" => ((k_here; k_extra "lcEA"))
  k_with "@SrcE" => ((k_here; k_extra "src"))
  k_with "@call type:enumerate" => ((k_here; k_extra "enum"))
  k_with "@call builtin:len" => ((k_here; k_dflt (refine row_len (by k_asm) (by with_reducible assumption) ?_); intro t9 tk9); (all_goals (try ((with_reducible show wpAny _ _ _ _ _ _); (try revert t9); (try revert tk9); intros))))
  k_with "@subscriptTail" => ((k_here; (with_reducible show wpAny _ _ (subscriptTail _ _ (Value.ref _) (Value.int _ _)) _ _ _); (with_unfolding_all first
      | (refine' row_item ?k1_q9 ?k2_q9 ?k3_q9 ?k4_q9 ?_ ?k6_q9; (case k2_q9 => with_reducible assumption); (case k1_q9 => k_asm); (case k3_q9 => lia); (case k4_q9 => lia); (case k6_q9 => with_unfolding_all rfl); k_whole; intro a9 t9 u9 hT9)
      | (refine' tup_item ?k1_q9 ?k2_q9 ?k3_q9 ?k4_q9 ?k5_q9 ?k6_q9 ?_ ?k7_q9; (case k2_q9 => with_reducible assumption); (case k1_q9 => k_asm); (case k3_q9 => decide); (case k4_q9 => decide); (case k5_q9 => exact rfl); (case k6_q9 => exact rfl); (case k7_q9 => with_unfolding_all rfl); k_whole))); (all_goals (try ((with_reducible show wpAny _ _ _ _ _ _); (try revert a9); (try revert t9); (try revert u9); (try revert hT9); intros))))
  k_with "@compareOp NotIn bool ref" => ((k_here; k_dflt (refine notin_bools (bs := [_, _, _, _, _, _, _]) (by is_list) (by rfl) ?_)))
  k_with "@compareOp NotIn bool ref" => ((k_here; k_dflt (refine notin_bools (bs := [_, _, _, _]) (by is_list) (by rfl) ?_)))
  k_with "@binaryOp Add str str" => ((k_here; k_extra "addstr"))
  k_with "@compareOp NotEq ref ref" => ((k_here; k_dflt (refine' ne_tup2 ?k1_q9 ?k2_q9 ?k3_q9 ?_; (case k1_q9 => exact News.isTup (by k_asm) (by k_mem)); (case k2_q9 => exact News.isTup (by k_asm) (by k_mem)); (case k3_q9 => ktr_units))))
  k_with "@compareOp NotEq ref ref" => ((k_here; k_dflt (refine' ne_nilL ?k1_q9 ?k2_q9 ?k3_q9 ?_; (case k1_q9 => is_list); (case k2_q9 => is_list); (case k3_q9 => ktr_units))))
  k_with "@compareOp In str ref" => ((k_here; (with_reducible show wpAny _ _ (compareOp CmpOp.In (Value.str _ _) (Value.ref _)) _ _ _); k_dflt (refine in_list_strs (ys := joinsL) (by is_list) (by assumption) ?_)))
  k_with "@compareOp Eq ref ref" => ((k_here; k_dflt (refine' eq_boolsF ?k1_q9 ?k2_q9 ?k3_q9 ?_; (case k1_q9 => is_list); (case k2_q9 => is_list); (case k3_q9 => ktr_units))))
  k_with "@eval ListComp" => ((k_here; (with_reducible show wpAny _ _ (eval (Expr.ListComp _ [{ target := _, iter := _, ifs := [], is_async := _ }] _ _) _) _ _ _); k_dflt (refine LCg.ListComp_U (F₀ := by k_asm) (by with_unfolding_all rfl) (by decide) (by rfl) (by decide) (by rfl) ?_)))
  k_with "@call builtin:len" => ((k_here; (with_reducible show wpAny _ _ (call (Value.builtin "len") [Value.ref _]) _ _ _); k_extra "len"))
  k_with "@compareOp NotEq ref ref" => ((k_here; k_extra "ne"))
  k_with "@exec For" => ((k_here; k_extra "for"))
  k_with "@exec For Name Call cons nil" => ((k_here; k_extra "for"))
  k_with "@pyIter ref" => ((k_here; k_extra "turns"))
  k_with "@call type:list" => ((k_here; (with_reducible show wpAny _ _ (call (Value.type _) [Value.ref _]) _ _ _); k_extra "list"))
  k_with "@subscriptTail" => ((k_here; (with_reducible show wpAny _ _ (subscriptTail _ _ (Value.ref _) (Value.int (-1) _)) _ _ _); k_dflt (refine' my_last ?k1_q9 ?k2_q9 ?k3_q9 ?_; (case k3_q9 => assumption); (case k1_q9 => is_list); (case k2_q9 => assumption))))
  k_with "@call builtin:max" => ((k_here; (with_reducible show wpAny _ _ (call (Value.builtin "max") [Value.int _ _, Value.int _ _]) _ _ _); k_dflt (refine' max_fst ?c_q9 ?hh_q9 ?F_q9 ?N_q9 ?_; (case c_q9 => lia); (case hh_q9 => rfl); (case F_q9 => k_asm); (case N_q9 => k_asm)); intro h9 tk9 F9 N9); (all_goals (try ((with_reducible show wpAny _ _ _ _ _ _); (try revert h9); (try revert tk9); (try revert F9); (try revert N9); intros))))
  k_with "@call builtin:min" => ((k_here; (with_reducible show wpAny _ _ (call (Value.builtin "min") [Value.int _ _, Value.int _ _]) _ _ _); k_dflt (refine' min_fst ?c_q9 ?hh_q9 ?F_q9 ?N_q9 ?_; (case c_q9 => lia); (case hh_q9 => rfl); (case F_q9 => k_asm); (case N_q9 => k_asm)); intro h9 tk9 F9 N9); (all_goals (try ((with_reducible show wpAny _ _ _ _ _ _); (try revert h9); (try revert tk9); (try revert F9); (try revert N9); intros))))
  k_with "@subscriptTail" => ((k_here; (with_reducible show wpAny _ _ (subscriptTail _ _ (Value.ref _) (Value.int _ _)) _ _ _); (with_unfolding_all refine' my_item ?k1_q9 ?k2_q9 ?k3_q9 ?k4_q9 ?_ ?k6_q9; (case k4_q9 => assumption); (case k1_q9 => exact News.isList (by k_asm) (by k_mem)); (case k2_q9 => lia); (case k3_q9 => lia); (case k6_q9 => with_unfolding_all rfl); k_whole)))
  k_with "@subscriptTail Name Slice ref ref" => ((k_here; ((have gX : List Dv := by assumption); clear gX); (with_reducible show wpAny _ _ (subscriptTail _ (PySem.Expr.Slice _ _ none _) (Value.ref _) (Value.ref _)) _ _ _); k_dflt (refine' kmk_slice_lit ?F_q9 ?N_q9 ?l_q9 ?p_q9 ?q_q9 ?e_q9 ?_ ?s_q9 ?t_q9 ?z_q9; (case F_q9 => k_asm); (case N_q9 => k_asm); (case l_q9 => kmk_list); (case p_q9 => kmk_part); (case q_q9 => kmk_part); (case e_q9 => first | ((with_reducible show (slicePick _ none _ none).toList = _); exact pick_upto (by lia)) | ((with_reducible show (slicePick _ _ none none).toList = _); exact pick_from (by lia))); (case s_q9 => with_unfolding_all rfl); (case t_q9 => kmk_pure); (case z_q9 => simp only [List.size_toArray, List.length_cons, List.length_nil]; rw [PySem.sizeLine_eq]; lia)); intro D' h' F' N' l1; (try k_lt l1); (try k_sweep)); (all_goals (try ((with_reducible show wpAny _ _ _ _ _ _); (try revert D'); (try revert h'); (try revert F'); (try revert N'); (try revert l1); (try revert gX); intros))))
  k_with "@compareOp NotIn str ref" => ((k_here; (with_reducible show wpAny _ _ (compareOp CmpOp.NotIn (Value.str _ _) (Value.ref _)) _ _ _); k_dflt (first
      | refine kdg_notin (knd := PySem.strKind _ _) (by k_asm) (by k_mem) (by assumption) (by assumption) (strKind_is _ _ _ _) false (none_is (by assumption)) ?_
      | refine kdg_notin (knd := PySem.strKind _ _) (by k_asm) (by k_mem) (by assumption) (by assumption) (strKind_is _ _ _ _) true (some_is (by assumption)) ?_); (try dsimp only [Bool.not_true, Bool.not_false])))
  k_with "@call builtin:dict.get" => ((k_here; (with_reducible show wpAny _ _ (call (Value.builtin "dict.get") [Value.ref _, Value.str _ _]) _ _ _); k_dflt (refine kdg_get1 (knd := PySem.strKind _ _) (by k_asm) (by k_mem) (by assumption) (by assumption) (strKind_is _ _ _ _) (some _) (by assumption) ?_); (try dsimp only [Option.getD])))
  k_with "@setItem ref str" => ((k_here; (with_reducible show wpAny _ _ (setItem (Value.ref _) (Value.str _ _) (Value.ref _)) _ _ _); k_dflt (refine' kda_set (knd := PySem.strKind _ _) ?F_q9 ?N_q9 ?U_q9 ?d_q9 (strKind_is _ _ _ _) ?z_q9 ?_; (case F_q9 => k_asm); (case N_q9 => k_asm); (case U_q9 => k_updF); (case d_q9 => assumption); (case z_q9 => rw [sizeLine_eq]; lia)); intro h' o' F' N' hd9; (try dsimp only at N')); (all_goals (try ((with_reducible show wpAny _ _ _ _ _ _); (try revert h'); (try revert o'); (try revert F'); (try revert N'); (try revert hd9); intros))))
  k_with "@subscriptTail" => ((k_here; (with_reducible show wpAny _ _ (subscriptTail _ _ (Value.ref _) (Value.str _ _)) _ _ _); k_extra "item"))
  k_with "@setItem ref str" => ((k_here; k_extra "dset"))
  k_with "@exec For Name Tuple cons nil" => ((k_here; k_extra "for"))
  k_with "@Exists" => ((k_here; k_extra "made"))
  k_with "@setItem ref str" => ((k_here; (with_reducible show wpAny _ _ (setItem (Value.ref _) (Value.str _ _) (Value.int _ _)) _ _ _); k_dflt (refine' kda_set (knd := PySem.strKind _ _) ?F_q9 ?N_q9 ?U_q9 ?d_q9 (strKind_is _ _ _ _) ?z_q9 ?_; (case F_q9 => k_asm); (case N_q9 => k_asm); (case U_q9 => k_updF); (case d_q9 => assumption); (case z_q9 => rw [sizeLine_eq]; decide)); intro h' o' F' N' hd9; (try dsimp only at N')); (all_goals (try ((with_reducible show wpAny _ _ _ _ _ _); (try revert h'); (try revert o'); (try revert F'); (try revert N'); (try revert hd9); intros))))
  k_with "@subscriptTail" => ((k_here; (with_reducible show wpAny _ _ (subscriptTail _ _ (Value.ref _) (Value.str _ _)) _ _ _); k_dflt (refine item_any (by k_asm) (by k_mem) (by assumption) (by rfl) ?_)))
  k_with "@call builtin:list.pop" => ((k_here; (with_reducible show wpAny _ _ (call (Value.builtin _) [Value.ref _, Value.int 0 _]) _ _ _); k_dflt (refine' pop0 ?F_q9 ?N_q9 ?U_q9 ?z_q9 ?_; (case F_q9 => k_asm); (case N_q9 => k_asm); (case U_q9 => k_upd); (case z_q9 => lia)); (intro h' F' N'; (try dsimp only [List.nil_append, List.cons_append] at N'))); (all_goals (try ((with_reducible show wpAny _ _ _ _ _ _); (try revert h'); (try revert F'); (try revert N'); intros))))
  k_with "@exec For Name Call cons nil" => ((k_here; k_extra "for"))
  k_with "@call ref" => ((k_here; (with_reducible show wpAny _ _ (call (Value.ref 324) _) _ _ _); k_extra "deck"))
  k_with "@call ref" => ((k_here; (with_reducible show wpAny _ _ (call (Value.ref 286) _) _ _ _); k_extra "data"))
  k_with "@call ref" => ((k_here; (with_reducible show wpAny _ _ (call (Value.ref 311) _) _ _ _); k_extra "plain"))
  k_with "@call ref" => ((k_here; (with_reducible show wpAny _ _ (call (Value.ref 297) _) _ _ _); k_extra "gcbs"))
  k_with "@call ref" => ((k_here; (with_reducible show wpAny _ _ (call (Value.ref 304) _) _ _ _); k_extra "incbs"))
  k_with "@call ref" => ((k_here; (with_reducible show wpAny _ _ (call (Value.ref 331) _) _ _ _); k_extra "draw"))
  k_with "@call type:list" => ((k_here; (with_reducible show wpAny _ _ (call (Value.type _) [Value.ref _]) _ _ _); k_extra "list"))
  k_with "@storeName" => ((k_here; (with_reducible show wpAny _ _ (storeName _ (Str.ofString "known") _) _ _ _); k_extra "cell"))
  k_with "@exec For Tuple Call cons nil" => ((k_here; k_extra "for"))
  k_with "@call ref" => ((k_here; (with_reducible show wpAny _ _ (call (Value.ref 362) _) _ _ _); k_extra "plr"))
  k_with "@call ref" => ((k_here; (with_reducible show wpAny _ _ (call (Value.ref 124) _) _ _ _); k_extra "sure"))
  k_with "@call ref" => ((k_here; (with_reducible show wpAny _ _ (call (Value.ref 131) _) _ _ _); k_extra "safe"))
  k_with "@call ref" => ((k_here; (with_reducible show wpAny _ _ (call (Value.ref 357) _) _ _ _); k_extra "cut"))
  k_with "@call builtin:len" => ((k_here; k_extra "len"))
  k_with "@subscriptTail Name Slice ref ref" => ((k_here; k_extra "slice"))
  k_with "@compareOp Eq ref ref" => ((k_here; k_extra "eqr"))
  k_with "@compareOp In str ref" => ((k_here; k_extra "inlf"))
  k_with "@eval List" => ((k_here; (with_reducible show wpAny _ _ (eval (PySem.Expr.List [] _) _) _ _ _); k_extra "nil"))
  k_with "@call type:enumerate" => ((k_here; k_extra "enum"))
  k_with "@assign Tuple" => ((k_here; k_extra "unp"))
  k_with "@call ref" => ((k_here; (with_reducible show wpAny _ _ (call (Value.ref 269) _) _ _ _); k_extra "dput"))
  k_with "@newTuple" => ((k_here; k_extra "tup"))
  k_with "@call builtin:list.append" => ((k_here; k_extra "app"))
  k_with "@subscriptTail" => ((k_here; (with_reducible show wpAny _ _ (subscriptTail _ _ (Value.ref _) (Value.int _ _)) _ _ _); k_extra "item"))
  k_with "k0" => (k_here; (with_reducible show wpAny _ _ (callWith _ (Value.ref _) _ (backTo _ (starEach [] _)) []) _ _ _); k_dflt (refine' callWith_K0 ?k1_q9 ?k2_q9 ?_; (case k1_q9 => first | with_reducible assumption | exact Frag.In.keeps (by with_reducible assumption) (Fr.keep (by with_reducible assumption))); (case k2_q9 => k_is); k_whole))
  k_with "fold" => k_fold
  k_with "noclose" => skip
  rename World => w
  rename Heap.IsList _ _ _ => hLs
  rename IntsAre _ _ => hIs
  rename List Int => ns
  have hns : ns.length ≤ 63 := by lia
  k_with "deck" =>
    k_dflt (refine' CtrM.useP (c_deck w _ _ _ hIs hns) _ ?k1 ?k2 ?k3 ?k4 (fun p hp => hp) ?nd ?k5 ?k6 ?k7 ?k8 ?k9 deck_nd ?_; (case k1 => k_asm); (case k2 => k_asm); (case k3 => k_asm); (case k4 => k_asm); (case nd => simp); (case k5 => k_asm); (case k6 => first | exact rfl | assumption); (case k7 => exact hLs); (case k8 => ktr_room); (case k9 => ktr_units))
    intro r9 h9 tk9 mu9 F9 N9 nd9 hr9
    obtain ⟨dk, la, od, us, n0, e1, e2, hDk, hneD, loD⟩ := hr9
    subst e1
    subst e2
    try k_fold
  k_with "data" =>
    k_dflt (refine' Cls.useN (fun x9 dx9 hne9 => (c_dinit w x9 dx9 hne9).imp (fun v mu h => ⟨h.1, h⟩)) ?km ?ki ?kf (fun mu x dx h => DinitR.nd mu h) ?k1 ?k2 ?k3 N9 nd9 ?k5 ?k6 ?k7 ?k8 ?k9 ?_; (case km => k_is); (case ki => k_is); (case kf => k_is); (case k1 => k_asm); (case k2 => k_asm); (case k3 => k_asm); (case k5 => k_asm); (case k6 => first | exact rfl | assumption); (case k7 => trivial); (case k8 => ktr_room); (case k9 => ktr_units))
    clear F9 N9 nd9
    intro d dd h9 tk9 mu9 F9 N9 nd9 hr9
    unfold DinitR at hr9
    obtain ⟨-, df, mp, q, u, pp, ww, odf, omp, e1, hDf, hOmp, loF, loM, -⟩ := hr9
    subst e1
    try k_fold
  k_with "plain" =>
    k_dflt (refine' CtrM.useP (c_plain w) _ ?k1 ?k2 ?k3 N9 (fun p hp => hp) nd9 ?k5 ?k6 ?k7 ?k8 ?k9 PlainR.nd ?_; (case k1 => k_asm); (case k2 => k_asm); (case k3 => k_asm); (case k5 => k_asm); (case k6 => first | exact rfl | assumption); (case k7 => trivial); (case k8 => ktr_room); (case k9 => ktr_units))
    clear F9 N9 nd9
    intro r9 h9 tk9 mu9 F9 N9 nd9 hr9
    unfold PlainR at hr9
    obtain ⟨pa, kvs, pn, ptl, e1, e2, hSg, -⟩ := hr9
    subst e1
    subst e2
    try k_fold
  k_with "list" =>
    k_dflt (refine' list_copyK ?k1 N9 ?k3 ?_ ?z; (case k1 => k_asm); (case k3 => exact News.isList N9 (.head _)); (case z => rw [PySem.sizeLine_eq, List.size_toArray, hSg.length]; decide))
    intro ka c' h' F' N' l1
    have ndK := nd_cons (o := { cls := .type "list", data := .seq kvs.toArray c' }) l1 nd9
    clear F9 N9 nd9
    k_dflt (have N8 := led_first (K := [(ka, W.listOf kvs.toArray c')]) (P := [(pa, W.listOf kvs.toArray pn)]) (T := ptl) (A := daL d dd df mp q u pp ww odf omp) (B := dkL dk la od us n0) (C := [(_, _)]) N')
    k_dflt (have nd8 := led_nd (K := [(ka, W.listOf kvs.toArray c')]) (P := [(pa, W.listOf kvs.toArray pn)]) (T := ptl) (A := daL d dd df mp q u pp ww odf omp) (B := dkL dk la od us n0) (C := [(_, _)]) ndK)
    clear N' ndK
    simp only [dkL, List.cons_append, List.nil_append] at N8 nd8
  k_with "cell" =>
    k_dflt (refine' storeX_C ?F (news_sub ?N ?hs) ?c (updF_nd [(ka, W.listOf kvs.toArray c')] nd8) ?d ?_ ?qa ?qb; (case qa => rfl); (case qb => rfl); (case F => k_asm); (case N => k_asm); (case hs => exact fun p hp => List.mem_cons_of_mem _ hp); (case c => rfl); (case d => k_asm); k_whole)
    intro h9 oc F9 N9 hoc
    k_dflt (have nd9 := nd_set (o' := oc) (pre := [(ka, W.listOf kvs.toArray c')]) nd8)
    clear nd8
    simp only [List.cons_append, List.nil_append] at N9 nd9
  k_with "for" =>
    fail_if_success (with_reducible show wpAny _ _ (exec (Stmt.For _ (PySem.Expr.Tuple _ _ _) _ _ _) _) _ _ _)
    k_dflt (refine' For_turns (by k_asm) ?_)
  k_with "turns" =>
    first
      | ((fail_if_success (have q := hs9))
         k_dflt (refine mt_rangeN (n := 8) (LedA ka _ dk la oc (daL d dd df mp q u pp ww odf omp)) (fun _ => []) [Str.ofString "go", Str.ofString "gcb", Str.ofString "incb"] (KA w la) ⟨kvs, c', ptl, od, us, n0⟩ (by rfl) (by assumption) (by rfl) (by rfl) (by k_asm) (by k_asm) nd9 (List.forall_mem_nil _) ⟨_, hSg, rfl, plain_ok, rfl, hDk⟩ ?_ ?_)
         rotate_left
         intro c9 u9 h9 tk9 hK9 ndD F9 N9
         unfold KA at hK9
         obtain ⟨kn, hs9, hl9, ho9, hz9, hd9⟩ := hK9
         have hkl := hs9.length
         k_dflt (have ndE := pkr_d (R := [(ka, W.listOf c9.kvs.toArray c9.c), (_, oc), (dk, c9.od), (la, W.listOf c9.us.toArray c9.n)]) (D := (daL d dd df mp q u pp ww odf omp)) (T := c9.tl) ndD)
         simp only [LedA, List.cons_append, List.nil_append] at N9
         clear ndD
         rotate_right
         --T2
         intro i9 c9 t9 u9 h9 tk9 I9 oI9 hi9 hK9 ndT F9 N9
         unfold KA at hK9
         obtain ⟨kn, hs9, hl9, ho9, hz9, hd9⟩ := hK9
         have hkl := hs9.length
         simp only [LedA, List.cons_append, List.nil_append] at N9 ndT
         --E2
         skip)
      | ((fail_if_success (have q := hyi))
         k_dflt (refine mt_rangeN (n := xA.toNat) (LedC na dk la [(ka, W.listOf c9.kvs.toArray c9.c), (_, oc)] Z) (fun _ => []) [Str.ofString "go"] (KC w la) ⟨[], [], 0, odA, usA, nA⟩ (by rfl) (by assumption) (small_one (by lia) (by lia) (by lia) (by lia)) ((rangeSize_nat _ _).trans (by lia)) (by k_asm) (by k_asm) ndG (List.forall_mem_nil _) ⟨.nil, rfl, (fun _ h => nomatch h), hdA⟩ ?_ ?_)
         rotate_left
         intro y9 u9 h9 tk9 hK9 ndD F9 N9
         unfold KC at hK9
         obtain ⟨hyi, hyl, hyb, hyd⟩ := hK9
         have hyn := hyi.length
         simp only [LedC, List.cons_append, List.nil_append] at N9 ndD
         rotate_right
         --T5
         intro i9 y9 t9 u9 h9 tk9 I9 oI9 hi9 hK9 ndT F9 N9
         unfold KC at hK9
         obtain ⟨hyi, hyl, hyb, hyd⟩ := hK9
         have hyn := hyi.length
         simp only [LedC, List.cons_append, List.nil_append] at N9 ndT
         --E5
         skip)
      | ((fail_if_success (have q := htl))
         k_dflt (refine' mt_bools (items := [Value.bool false, Value.bool true]) ((_, { cls := Value.type "tuple", data := Data.seq (List.toArray [Value.bool false, Value.bool true]) }) :: (_, LCg.lst rv) :: (_, LCg.lst tv) :: (ka, W.listOf c9.kvs.toArray c9.c) :: (_, oc) :: Z) ?F (news_sub ?N ?hs) ?hm ?hh two_bools ?_ ?_; (case F => k_asm); (case N => k_asm); (case hs => (repeat (first | with_reducible exact List.forall_mem_nil _ | with_reducible exact fun p hp => hp | with_reducible refine List.forall_mem_cons.mpr ⟨?_, ?_⟩ | with_reducible refine sub_app ?_ ?_ | with_reducible exact List.mem_cons_self | with_reducible exact sub_l | with_reducible refine List.mem_cons_of_mem _ ?_ | with_reducible refine sub_tail ?_ | with_reducible refine sub_r ?_ | with_reducible refine List.mem_append_right _ ?_))); (case hm => exact List.mem_cons_self); (case hh => exact rfl))
         rotate_left
         intro u9 h9 tk9 F9 N9
         obtain ⟨D2, D1, e2, e1⟩ := name2 N9
         subst e2
         subst e1
         have htl : tv.length = y9.ms.length := by
           have := htv.length
           rw [this, List.length_map]
         k_dflt (repeat (rename ((@Ne Nat _ _) ∧ _) => q9; clear q9))
         clear hneD
         rotate_right
         --T7
         intro leg9 u9 h9 tk9 I9 oI9 hI9 F9 N9
         --E7
         skip)
      | ((fail_if_success (have q := h8done))
         k_dflt (refine mt_rangeF (a₀ := 1) (n := y9.ms.length - 1) (fun _ : Unit => (D2, LCg.lst rv) :: (D1, LCg.lst tv) :: (ka, W.listOf c9.kvs.toArray c9.c) :: (_, oc) :: Z) (fun _ => []) [Str.ofString "at", Str.ofString "is_sure"] (fun _ _ => True) () (by rfl) (by assumption) (small_one (by lia) (by lia) (by lia) (by lia)) ((rangeSize_nat _ _).trans (by lia)) (by k_asm) (news_sub (by k_asm) (by (repeat (first | with_reducible exact List.forall_mem_nil _ | with_reducible exact fun p hp => hp | with_reducible refine List.forall_mem_cons.mpr ⟨?_, ?_⟩ | with_reducible refine sub_app ?_ ?_ | with_reducible exact List.mem_cons_self | with_reducible exact sub_l | with_reducible refine List.mem_cons_of_mem _ ?_ | with_reducible refine sub_tail ?_ | with_reducible refine sub_r ?_ | with_reducible refine List.mem_append_right _ ?_)))) (List.forall_mem_nil _) trivial (fun _ => rfl) ?_ ?_)
         rotate_left
         intro c8 u9 h9 tk9 _ F9 N9
         have h8done : True := trivial
         rotate_right
         --T8
         intro i9 c8 t9 u9 h9 tk9 I9 oI9 hi9 _ hI9 F9 N9
         have hyk : ∀ m ∈ y9.ms, 0 ≤ m ∧ m < (kn.length : Int) := fun m hm => by have := hyb m hm; lia
         have hi1 : i9 + 1 < y9.ms.length := by lia
         obtain ⟨aL, oL, nL, tl1, tl2, hvL, mL, cL, dL⟩ := row_sign hZt hs9 hrv hyk (i := i9) (by lia)
         obtain ⟨aR, oR, nR, tr1, tr2, hvR, mR, cR, dR⟩ := row_sign hZt hs9 hrv hyk hi1
         k_dflt (have hqL := tx_item (ms := y9.ms) htv (i := i9) (by lia))
         k_dflt (have hqR := tx_item (ms := y9.ms) htv hi1)
         obtain ⟨tL, htL⟩ := hqL
         obtain ⟨tR, htR⟩ := hqR
         have hK0 := hs9.at 0 (by lia)
         unfold SgIn at hK0
         obtain ⟨v0, hv0, aK, oK, nK, tz1, tz2, eK, mK, cK, dK, -⟩ := hK0
         subst eK
         k_dflt (have hcd : Codes (txOf y9.ms) := (txt_of htv hyb (by lia)).hc)
         have hmK := hZt _ mK
         have eL : (1 + (i9 : Int) - 1).toNat = i9 := by lia
         have eR : (1 + (i9 : Int)).toNat = i9 + 1 := by lia
         have htL' := (congrArg (fun j => tv[j]?) eL).trans htL
         have htR' := (congrArg (fun j => tv[j]?) eR).trans htR
         have hvL' := (congrArg (fun j => rv[j]?) eL).trans hvL
         have hvR' := (congrArg (fun j => rv[j]?) eR).trans hvR
         --E8
         skip)
      | (k_dflt (refine mt_rangeF (a₀ := 0) (n := y9.ms.length + 1) (fun _ : Unit => (D2, LCg.lst rv) :: (D1, LCg.lst tv) :: (ka, W.listOf c9.kvs.toArray c9.c) :: (_, oc) :: Z) (fun _ => []) [Str.ofString "at", Str.ofString "safe"] (fun _ _ => True) () (by rfl) (by assumption) (small_one (by lia) (by lia) (by lia) (by lia)) ((rangeSize_nat _ _).trans (by lia)) (by k_asm) (news_sub (by k_asm) (by (repeat (first | with_reducible exact List.forall_mem_nil _ | with_reducible exact fun p hp => hp | with_reducible refine List.forall_mem_cons.mpr ⟨?_, ?_⟩ | with_reducible refine sub_app ?_ ?_ | with_reducible exact List.mem_cons_self | with_reducible exact sub_l | with_reducible refine List.mem_cons_of_mem _ ?_ | with_reducible refine sub_tail ?_ | with_reducible refine sub_r ?_ | with_reducible refine List.mem_append_right _ ?_)))) (List.forall_mem_nil _) trivial (fun _ => rfl) ?_ ?_)
         rotate_left
         intro c8 u9 h9 tk9 _ F9 N9
         rotate_right
         --T9
         intro i9 c8 t9 u9 h9 tk9 I9 oI9 hi9 _ hI9 F9 N9
         have hyk : ∀ m ∈ y9.ms, 0 ≤ m ∧ m < (kn.length : Int) := fun m hm => by have := hyb m hm; lia
         have hsf := safe_all ho9 hyk (i := i9) (by lia)
         obtain ⟨sf0, sf1, sf2⟩ := hsf
         --E9
         skip)
  k_with "gcbs" =>
    k_dflt (refine' CtrM.useP (c_gcbs w) _ ?k1 ?k2 ?k3 ?k4 ?hs ndT ?k5 ?k6 ?k7 ?k8 ?k9 StrNew.nd ?_; (case k1 => k_asm); (case k2 => k_asm); (case k3 => k_asm); (case k4 => k_asm); (case hs => (try simp only [dkL, List.cons_append, List.nil_append]); (repeat (first | with_reducible exact List.forall_mem_nil _ | with_reducible exact fun p hp => hp | with_reducible refine List.forall_mem_cons.mpr ⟨?_, ?_⟩ | with_reducible refine sub_app ?_ ?_ | with_reducible exact List.mem_cons_self | with_reducible exact sub_l | with_reducible refine List.mem_cons_of_mem _ ?_ | with_reducible refine sub_tail ?_ | with_reducible refine sub_r ?_ | with_reducible refine List.mem_append_right _ ?_))); (case k5 => k_asm); (case k6 => first | exact rfl | assumption); (case k7 => trivial); (case k8 => ktr_room); (case k9 => ktr_units))
    intro r8 h8 tk8 mu8 F8 N8 nd8 hr8
    unfold StrNew at hr8
    obtain ⟨gl, gvs, gn, e1, e2, hG⟩ := hr8
    subst e1
    subst e2
    simp only [List.cons_append, List.nil_append] at N8 nd8
  k_with "incbs" =>
    k_dflt (refine' CtrM.useP (c_incbs w) _ ?k1 ?k2 ?k3 ?k4 ?hs nd6 ?k5 ?k6 ?k7 ?k8 ?k9 StrNew.nd ?_; (case k1 => k_asm); (case k2 => k_asm); (case k3 => k_asm); (case k4 => k_asm); (case hs => (try simp only [dkL, List.cons_append, List.nil_append]); (repeat (first | with_reducible exact List.forall_mem_nil _ | with_reducible exact fun p hp => hp | with_reducible refine List.forall_mem_cons.mpr ⟨?_, ?_⟩ | with_reducible refine sub_app ?_ ?_ | with_reducible exact List.mem_cons_self | with_reducible exact sub_l | with_reducible refine List.mem_cons_of_mem _ ?_ | with_reducible refine sub_tail ?_ | with_reducible refine sub_r ?_ | with_reducible refine List.mem_append_right _ ?_))); (case k5 => k_asm); (case k6 => first | exact rfl | assumption); (case k7 => trivial); (case k8 => ktr_room); (case k9 => ktr_units))
    intro r8 h8 tk8 mu8 F8 N8 nd8 hr8
    unfold StrNew at hr8
    obtain ⟨il, ivs, inn, e1, e2, hB⟩ := hr8
    subst e1
    subst e2
    simp only [List.cons_append, List.nil_append] at N8 nd8
  k_with "draw" =>
    first
      | ((with_reducible show wpAny _ _ (call (Value.ref _) [Value.ref _, Value.int 12 _]) _ _ _)
         k_dflt (refine' CtrM.useQ (c_draw w dk la c9.od c9.us c9.n 12 _ hneD loD hd9 (by decide) (by decide)) [(gl, W.listOf gvs.toArray gn), (I9, oI9), (ka, W.listOf c9.kvs.toArray c9.c), (_, oc)] (daL d dd df mp q u pp ww odf omp ++ c9.tl) ?k1 ?k2 ?k3 ?k4 ?hs nd8 ?k5 ?k6 ?k7 ?k8 ?k9 (draw_nd hneD) ?_; (case k1 => k_asm); (case k2 => k_asm); (case k3 => k_asm); (case k4 => k_asm); (case hs => (try simp only [dkL, List.cons_append, List.nil_append]); (repeat (first | with_reducible exact List.forall_mem_nil _ | with_reducible exact fun p hp => hp | with_reducible refine List.forall_mem_cons.mpr ⟨?_, ?_⟩ | with_reducible refine sub_app ?_ ?_ | with_reducible exact List.mem_cons_self | with_reducible exact sub_l | with_reducible refine List.mem_cons_of_mem _ ?_ | with_reducible refine sub_tail ?_ | with_reducible refine sub_r ?_ | with_reducible refine List.mem_append_right _ ?_))); (case k5 => k_asm); (case k6 => first | exact rfl | assumption); (case k7 => trivial); (case k8 => ktr_room); (case k9 => ktr_units))
         intro r7 h7 tk7 mu7 F7 N7 nd7 hr7
         unfold DrawR at hr7
         obtain ⟨⟨x7, t7, e7, x70, x71⟩, od7, us7, n7, m7, hd7⟩ := hr7
         subst e7
         subst m7
         simp only [dkL, List.cons_append, List.nil_append] at N7 nd7
         have nd6 := nd_drop nd7)
      | ((with_reducible show wpAny _ _ (call (Value.ref _) [Value.ref _, Value.int 4 _]) _ _ _)
         k_dflt (refine' CtrM.useQ (c_draw w dk la od7 us7 n7 4 _ hneD loD hd7 (by decide) (by decide)) [(il, W.listOf ivs.toArray inn), (I9, oI9), (ka, W.listOf c9.kvs.toArray c9.c), (_, oc)] (daL d dd df mp q u pp ww odf omp ++ c9.tl) ?k1 ?k2 ?k3 ?k4 ?hs nd8 ?k5 ?k6 ?k7 ?k8 ?k9 (draw_nd hneD) ?_; (case k1 => k_asm); (case k2 => k_asm); (case k3 => k_asm); (case k4 => k_asm); (case hs => (try simp only [dkL, List.cons_append, List.nil_append]); (repeat (first | with_reducible exact List.forall_mem_nil _ | with_reducible exact fun p hp => hp | with_reducible refine List.forall_mem_cons.mpr ⟨?_, ?_⟩ | with_reducible refine sub_app ?_ ?_ | with_reducible exact List.mem_cons_self | with_reducible exact sub_l | with_reducible refine List.mem_cons_of_mem _ ?_ | with_reducible refine sub_tail ?_ | with_reducible refine sub_r ?_ | with_reducible refine List.mem_append_right _ ?_))); (case k5 => k_asm); (case k6 => first | exact rfl | assumption); (case k7 => trivial); (case k8 => ktr_room); (case k9 => ktr_units))
         intro r5 h5 tk5 mu5 F5 N5 nd5 hr5
         unfold DrawR at hr5
         obtain ⟨⟨x5, t5, e5, x50, x51⟩, od5, us5, n5, m5, hd5⟩ := hr5
         subst e5
         subst m5
         simp only [dkL, List.cons_append, List.nil_append] at N5 nd5
         have nd4 := nd_drop nd5)
      | ((with_reducible show wpAny _ _ (call (Value.ref _) [Value.ref _, Value.int 3 _]) _ _ _)
         k_dflt (refine' CtrM.useQ (c_draw w dk la od5 us5 n5 3 _ hneD loD hd5 (by decide) (by decide)) [(I9, oI9), (ka, W.listOf c9.kvs.toArray c9.c), (_, oc)] (daL d dd df mp q u pp ww odf omp ++ c9.tl) ?k1 ?k2 ?k3 ?k4 ?hs nd4 ?k5 ?k6 ?k7 ?k8 ?k9 (draw_nd hneD) ?_; (case k1 => k_asm); (case k2 => k_asm); (case k3 => k_asm); (case k4 => k_asm); (case hs => (try simp only [dkL, List.cons_append, List.nil_append]); (repeat (first | with_reducible exact List.forall_mem_nil _ | with_reducible exact fun p hp => hp | with_reducible refine List.forall_mem_cons.mpr ⟨?_, ?_⟩ | with_reducible refine sub_app ?_ ?_ | with_reducible exact List.mem_cons_self | with_reducible exact sub_l | with_reducible refine List.mem_cons_of_mem _ ?_ | with_reducible refine sub_tail ?_ | with_reducible refine sub_r ?_ | with_reducible refine List.mem_append_right _ ?_))); (case k5 => k_asm); (case k6 => first | exact rfl | assumption); (case k7 => trivial); (case k8 => ktr_room); (case k9 => ktr_units))
         intro r3 h3 tk3 mu3 F3 N3 nd3 hr3
         unfold DrawR at hr3
         obtain ⟨⟨x3, t3, e3, x30, x31⟩, od3, us3, n3, m3, hd3⟩ := hr3
         subst e3
         subst m3
         simp only [dkL, List.cons_append, List.nil_append] at N3 nd3)
      | ((with_reducible show wpAny _ _ (call (Value.ref _) [Value.ref _, Value.int 10 _]) _ _ _)
         k_dflt (refine' CtrM.useQ (c_draw w dk la c9.od c9.us c9.n 10 _ hneD loD hd9 (by decide) (by decide)) [(na, W.listOf ([] : List Value).toArray 0), (ka, W.listOf c9.kvs.toArray c9.c), (_, oc)] Z ?k1 ?k2 ?k3 ?k4 ?hs ndN ?k5 ?k6 ?k7 ?k8 ?k9 (draw_nd hneD) ?_; (case k1 => k_asm); (case k2 => k_asm); (case k3 => k_asm); (case k4 => k_asm); (case hs => (try simp only [dkL, List.cons_append, List.nil_append]); (repeat (first | with_reducible exact List.forall_mem_nil _ | with_reducible exact fun p hp => hp | with_reducible refine List.forall_mem_cons.mpr ⟨?_, ?_⟩ | with_reducible refine sub_app ?_ ?_ | with_reducible exact List.mem_cons_self | with_reducible exact sub_l | with_reducible refine List.mem_cons_of_mem _ ?_ | with_reducible refine sub_tail ?_ | with_reducible refine sub_r ?_ | with_reducible refine List.mem_append_right _ ?_))); (case k5 => k_asm); (case k6 => first | exact rfl | assumption); (case k7 => trivial); (case k8 => ktr_room); (case k9 => ktr_units))
         intro r3 h3 tk3 mu3 F3 N3 nd3 hr3
         unfold DrawR at hr3
         obtain ⟨⟨xA, tA, e3, xA0, xA1⟩, odA, usA, nA, m3, hdA⟩ := hr3
         subst e3
         subst m3
         simp only [dkL, List.cons_append, List.nil_append] at N3 nd3
         have ndG := nd3
         clear nd3)
      | ((with_reducible show wpAny _ _ (call (Value.ref _) [Value.ref _, Value.int 3 _]) _ _ _)
         k_dflt (refine' CtrM.useQ (c_draw w dk la y9.od y9.us y9.n 3 _ hneD loD hyd (by decide) (by decide)) [(I9, oI9), (na, W.listOf y9.vs.toArray y9.c), (ka, W.listOf c9.kvs.toArray c9.c), (_, oc)] Z ?k1 ?k2 ?k3 ?k4 ?hs ndT ?k5 ?k6 ?k7 ?k8 ?k9 (draw_nd hneD) ?_; (case k1 => k_asm); (case k2 => k_asm); (case k3 => k_asm); (case k4 => k_asm); (case hs => (try simp only [dkL, List.cons_append, List.nil_append]); (repeat (first | with_reducible exact List.forall_mem_nil _ | with_reducible exact fun p hp => hp | with_reducible refine List.forall_mem_cons.mpr ⟨?_, ?_⟩ | with_reducible refine sub_app ?_ ?_ | with_reducible exact List.mem_cons_self | with_reducible exact sub_l | with_reducible refine List.mem_cons_of_mem _ ?_ | with_reducible refine sub_tail ?_ | with_reducible refine sub_r ?_ | with_reducible refine List.mem_append_right _ ?_))); (case k5 => k_asm); (case k6 => first | exact rfl | assumption); (case k7 => trivial); (case k8 => ktr_room); (case k9 => ktr_units))
         intro r3 h3 tk3 mu3 F3 N3 nd3 hr3
         unfold DrawR at hr3
         obtain ⟨⟨xB, tB, e3, xB0, xB1⟩, odB, usB, nB, m3, hdB⟩ := hr3
         subst e3
         subst m3
         simp only [dkL, List.cons_append, List.nil_append] at N3 nd3
         have ndG := nd3
         clear nd3)
      | ((with_reducible show wpAny _ _ (call (Value.ref _) [Value.ref _, Value.int 8 _]) _ _ _)
         k_dflt (refine' CtrM.useQ (c_draw w dk la odB usB nB 8 _ hneD loD hdB (by decide) (by decide)) [(I9, oI9), (na, W.listOf y9.vs.toArray y9.c), (ka, W.listOf c9.kvs.toArray c9.c), (_, oc)] Z ?k1 ?k2 ?k3 ?k4 ?hs ndG ?k5 ?k6 ?k7 ?k8 ?k9 (draw_nd hneD) ?_; (case k1 => k_asm); (case k2 => k_asm); (case k3 => k_asm); (case k4 => k_asm); (case hs => (try simp only [dkL, List.cons_append, List.nil_append]); (repeat (first | with_reducible exact List.forall_mem_nil _ | with_reducible exact fun p hp => hp | with_reducible refine List.forall_mem_cons.mpr ⟨?_, ?_⟩ | with_reducible refine sub_app ?_ ?_ | with_reducible exact List.mem_cons_self | with_reducible exact sub_l | with_reducible refine List.mem_cons_of_mem _ ?_ | with_reducible refine sub_tail ?_ | with_reducible refine sub_r ?_ | with_reducible refine List.mem_append_right _ ?_))); (case k5 => k_asm); (case k6 => first | exact rfl | assumption); (case k7 => trivial); (case k8 => ktr_room); (case k9 => ktr_units))
         intro r3 h3 tk3 mu3 F3 N3 nd3 hr3
         unfold DrawR at hr3
         obtain ⟨⟨xC, tC, e3, xC0, xC1⟩, odC, usC, nC, m3, hdC⟩ := hr3
         subst e3
         subst m3
         simp only [dkL, List.cons_append, List.nil_append] at N3 nd3
         have ndH := nd3
         clear nd3)
  k_with "item" =>
    first
      | ((with_reducible show wpAny _ _ (subscriptTail _ _ (Value.ref gl) (Value.int x7 _)) _ _ _)
         k_dflt (have q9 : x7 < ((gcbsL.length : Nat) : Int) := x71)
         obtain ⟨g9, tg9, hg9, hx9⟩ := strs_pick hG x70 q9
         (with_unfolding_all refine' my_item ?k1 ?k2 ?k3 ?k4 ?_ ?k6; (case k4 => exact hx9); (case k1 => exact News.isList N7 (.head _)); (case k2 => exact x70); (case k3 => lia); (case k6 => with_unfolding_all rfl); k_whole))
      | ((with_reducible show wpAny _ _ (subscriptTail _ _ (Value.ref il) (Value.int x5 _)) _ _ _)
         k_dflt (have q9 : x5 < ((incbsL.length : Nat) : Int) := x51)
         obtain ⟨b9, tb9, hb9, hy9⟩ := strs_pick hB x50 q9
         (with_unfolding_all refine' my_item ?k1 ?k2 ?k3 ?k4 ?_ ?k6; (case k4 => exact hy9); (case k1 => exact News.isList N5 (.head _)); (case k2 => exact x50); (case k3 => lia); (case k6 => with_unfolding_all rfl); k_whole))
      | ((with_reducible show wpAny _ _ (subscriptTail _ _ (Value.ref ka) (Value.int k _)) _ _ _)
         (with_unfolding_all refine' my_item (vs := c9.kvs) ?k1 ?k2 ?k3 ?k4 ?_ ?k6; (case k4 => exact hv6); (case k1 => exact News.isList (by k_asm) (by k_mem)); (case k2 => exact hkb.1); (case k3 => lia); (case k6 => with_unfolding_all rfl); k_whole))
      | ((with_reducible show wpAny _ _ (subscriptTail _ (PySem.Expr.BinOp _ _ _ _) (Value.ref D1) (Value.int _ _)) _ _ _)
         (with_unfolding_all refine' my_item (vs := tv) ?k1 ?k2 ?k3 ?k4 ?_ ?k6; (case k4 => exact htL'); (case k1 => exact News.isList (by k_asm) (by k_mem)); (case k2 => lia); (case k3 => lia); (case k6 => with_unfolding_all rfl); k_whole))
      | ((with_reducible show wpAny _ _ (subscriptTail _ (PySem.Expr.Name _ _) (Value.ref D1) (Value.int _ _)) _ _ _)
         (with_unfolding_all refine' my_item (vs := tv) ?k1 ?k2 ?k3 ?k4 ?_ ?k6; (case k4 => exact htR'); (case k1 => exact News.isList (by k_asm) (by k_mem)); (case k2 => lia); (case k3 => lia); (case k6 => with_unfolding_all rfl); k_whole))
      | ((with_reducible show wpAny _ _ (subscriptTail _ (PySem.Expr.BinOp _ _ _ _) (Value.ref D2) (Value.int _ _)) _ _ _)
         (with_unfolding_all refine' my_item (vs := rv) ?k1 ?k2 ?k3 ?k4 ?_ ?k6; (case k4 => exact hvL'); (case k1 => exact News.isList (by k_asm) (by k_mem)); (case k2 => lia); (case k3 => lia); (case k6 => with_unfolding_all rfl); k_whole))
      | ((with_reducible show wpAny _ _ (subscriptTail _ (PySem.Expr.Name _ _) (Value.ref D2) (Value.int _ _)) _ _ _)
         (with_unfolding_all refine' my_item (vs := rv) ?k1 ?k2 ?k3 ?k4 ?_ ?k6; (case k4 => exact hvR'); (case k1 => exact News.isList (by k_asm) (by k_mem)); (case k2 => lia); (case k3 => lia); (case k6 => with_unfolding_all rfl); k_whole))
      | ((with_reducible show wpAny _ _ (subscriptTail _ _ (Value.ref aL) (Value.int 0 _)) _ _ _)
         (with_unfolding_all refine' item_tupleT (l := [Value.str _ _, Value.str _ _, Value.bool _]) (tup_of ?N1 ?m1 cL dL) ?k3 ?k4 ?k5 ?k6 ?_ ?k7; (case N1 => k_asm); (case m1 => (repeat (first | exact mL | refine List.mem_cons_of_mem _ ?_))); (case k3 => decide); (case k4 => decide); (case k5 => exact rfl); (case k6 => exact rfl); (case k7 => with_unfolding_all rfl); k_whole))
      | ((with_reducible show wpAny _ _ (subscriptTail _ _ (Value.ref aR) (Value.int 0 _)) _ _ _)
         (with_unfolding_all refine' item_tupleT (l := [Value.str _ _, Value.str _ _, Value.bool _]) (tup_of ?N1 ?m1 cR dR) ?k3 ?k4 ?k5 ?k6 ?_ ?k7; (case N1 => k_asm); (case m1 => (repeat (first | exact mR | refine List.mem_cons_of_mem _ ?_))); (case k3 => decide); (case k4 => decide); (case k5 => exact rfl); (case k6 => exact rfl); (case k7 => with_unfolding_all rfl); k_whole))
      | ((with_reducible show wpAny _ _ (subscriptTail _ _ (Value.ref ka) (Value.int (0) _)) _ _ _)
         (with_unfolding_all refine' my_item (vs := c9.kvs) ?k1 ?k2 ?k3 ?k4 ?_ ?k6; (case k4 => exact hv0); (case k1 => exact News.isList (by k_asm) (by k_mem)); (case k2 => lia); (case k3 => lia); (case k6 => with_unfolding_all rfl); k_whole))
  k_with "tup" =>
    (with_reducible show wpAny _ _ (newTuple [Value.str _ _, Value.str _ _, Value.bool _]) _ _ _)
    k_dflt (refine' kup_newTuple ?F ?N ?_ ?z; (case F => k_asm); (case N => k_asm); (case z => exact Nat.le_of_ble_eq_true rfl))
    intro T5 hT FT NT lT
    k_dflt (have nd2 := nd_tail (A := [(I9, oI9), (ka, W.listOf c9.kvs.toArray c9.c), (_, oc), (dk, od3), (la, W.listOf us3.toArray n3)]) (X := daL d dd df mp q u pp ww odf omp) (tl := c9.tl) NT nd3 lT)
    simp only [List.cons_append, List.nil_append] at nd2
  k_with "app" =>
    first
      | (k_dflt (refine' append_nd (kvs := c9.kvs) (n := c9.c) [(I9, oI9)] _ ?F ?N ?hs nd2 ?hz ?_; (case F => k_asm); (case N => k_asm); (case hs => (repeat (first | with_reducible exact List.forall_mem_nil _ | with_reducible exact fun p hp => hp | with_reducible refine List.forall_mem_cons.mpr ⟨?_, ?_⟩ | with_reducible refine sub_app ?_ ?_ | with_reducible exact List.mem_cons_self | with_reducible exact sub_l | with_reducible refine List.mem_cons_of_mem _ ?_ | with_reducible refine sub_tail ?_ | with_reducible refine sub_r ?_ | with_reducible refine List.mem_append_right _ ?_))); (case hz => lia))
         intro h2 F2 N2
         simp only [List.cons_append, List.nil_append] at N2
         k_dflt (have nd1 := nd_set (o' := W.listOf (c9.kvs ++ [Value.ref T5]).toArray (c9.c + 1)) (pre := [(I9, oI9)]) nd2))
      | (k_dflt (refine' append_nd (kvs := y9.vs) (n := y9.c) [(I9, oI9)] _ ?F ?N ?hs ndH ?hz ?_; (case F => k_asm); (case N => k_asm); (case hs => (repeat (first | with_reducible exact List.forall_mem_nil _ | with_reducible exact fun p hp => hp | with_reducible refine List.forall_mem_cons.mpr ⟨?_, ?_⟩ | with_reducible refine sub_app ?_ ?_ | with_reducible exact List.mem_cons_self | with_reducible exact sub_l | with_reducible refine List.mem_cons_of_mem _ ?_ | with_reducible refine sub_tail ?_ | with_reducible refine sub_r ?_ | with_reducible refine List.mem_append_right _ ?_))); (case hz => lia))
         intro h2 F2 N2
         simp only [List.cons_append, List.nil_append] at N2)
  k_with "src" =>
    first
      | ((with_reducible show LCg.CompSrc _ _ _ _ _ _ _ (PySem.Expr.BinOp _ _ _ _) _ _ _ _ _ _)
         k_dflt (refine LCg.CompSrc.ledger (its := y9.vs.toArray) (k := y9.c) (by rfl) (by k_asm) (by k_asm) (by k_mem) (by rw [PySem.sizeLine_eq, List.size_toArray]; lia) ?_)
         intro g'
         k_dflt (refine restI (ks := y9.ms) (fun m => 8704 + m) (hyn.symm.trans (List.size_toArray (as := y9.vs)).symm) (ints_items hyi) (by first | exact .inr ⟨_, by k_mem, rfl, _, rfl⟩ | lcg_src) (fun k t I oI C oC D₀ m₂ ys h tk E' hk hC hx F N off ne => ?_) (fun tv htv => ?_)))
      | (k_dflt (refine LCg.CompSrc.ledger (its := y9.vs.toArray) (k := y9.c) (by rfl) (by k_asm) (by k_asm) (by k_mem) (by rw [PySem.sizeLine_eq, List.size_toArray]; lia) ?_)
         intro g'
         k_dflt (refine restR (ks := y9.ms) c9.kvs (hyn.symm.trans (List.size_toArray (as := y9.vs)).symm) (ints_items hyi) (by first | exact .inr ⟨_, by k_mem, rfl, _, rfl⟩ | lcg_src) (fun k t I oI C oC D₀ m₂ ys h tk E' hk hC hx F N off ne => ?_) (fun rv hrv => ?_))
         have hkb := hyb _ hk
         obtain ⟨v6, hv6, -⟩ := hs9.at k.toNat (by lia))
  k_with "plr" =>
    have hyk : ∀ m ∈ y9.ms, 0 ≤ m ∧ m < (kn.length : Int) := fun m hm => by have := hyb m hm; lia
    k_dflt (refine' Ctr.use (c_plr w d (dbOf kn) _ tv (txOf y9.ms) _ rv (rowK kn y9.ms) _ (txt_of htv hyb (by lia)) (pl_all ho9 hyk _)) ?k1 ?k2 ?k3 ?k4 ?k5 ?k6 ?k7 ?k8 ?k9 ?_; (case k1 => k_asm); (case k2 => k_asm); (case k3 => k_asm); (case k4 => k_asm); (case k5 => k_asm); (case k6 => first | exact rfl | assumption); (case k7 => exact all_at (by k_asm) (by (repeat (first | with_reducible exact List.forall_mem_nil _ | with_reducible exact fun p hp => hp | with_reducible refine List.forall_mem_cons.mpr ⟨?_, ?_⟩ | with_reducible refine sub_app ?_ ?_ | with_reducible exact List.mem_cons_self | with_reducible exact sub_l | with_reducible refine List.mem_cons_of_mem _ ?_ | with_reducible refine sub_tail ?_ | with_reducible refine sub_r ?_ | with_reducible refine List.mem_append_right _ ?_))) (by k_mem) (by k_mem) hZd hZt hs9 hrv hyk (by lia)); (case k8 => ktr_room); (case k9 => ktr_units))
    intro r9 h9 tk9 st9 F9 N9 hr9
    subst hr9
  k_with "nil" =>
    k_dflt (refine' list_nil ?k1 ?k4 ndZ ?_; (case k1 => k_asm); (case k4 => k_asm))
    intro na h9 F9 N9 ndN
  k_with "enum" =>
    obtain ⟨kvd, hkd, -, hg0, hi0, he0⟩ := id hDf
    obtain ⟨dfg, hvg, hig⟩ := hg0 rfl
    obtain ⟨dfi, hvi, hii⟩ := hi0 rfl
    obtain ⟨dfe, hve, hie⟩ := he0 rfl
    k_dflt (refine mt_enumN (l := ka) (lo := W.listOf c9.kvs.toArray c9.c) (vs := c9.kvs) (nn := c9.c) (LedB d dd df mp q u pp ww odf [(ka, W.listOf c9.kvs.toArray c9.c), (_, oc), (dk, c9.od), (la, W.listOf c9.us.toArray c9.n)] c9.tl) (fun _ => []) [Str.ofString "number", Str.ofString "gcb", Str.ofString "incb", Str.ofString "is_picture"] (KB w (dbOf kn)) ⟨omp, none⟩ (by rfl) (by k_asm) (pkr (R := [(ka, W.listOf c9.kvs.toArray c9.c), (_, oc), (dk, c9.od), (la, W.listOf c9.us.toArray c9.n)]) (D := (daL d dd df mp q u pp ww odf omp)) (T := c9.tl) (by k_asm)) ndE (fun c => List.mem_append_right _ (List.mem_append_left _ List.mem_cons_self)) rfl rfl (List.forall_mem_nil _) ⟨rfl, hOmp⟩ ?_ ?_)
    rotate_left
    intro b9 u9 h9 tk9 hK9 ndD F9 N9
    obtain ⟨ompF, msF⟩ := b9
    have h16 : c9.kvs.length = 15 + 1 := by lia
    rw [h16] at hK9
    simp only [KB] at hK9
    obtain ⟨a0, b0, f0, hms, hOmpF, oa, ob, oe⟩ := hK9
    subst hms
    k_dflt (have hfz := freeze (R := [(ka, W.listOf c9.kvs.toArray c9.c), (_, oc), (dk, c9.od), (la, W.listOf c9.us.toArray c9.n)]) (tl := c9.tl) (D := dbOf kn) N9 ndD hOmpF loM oa ob oe)
    clear N9 ndD
    obtain ⟨Z, N9, ndZ, hZd, hZt, odd, hZi⟩ := hfz
    simp only [List.cons_append, List.nil_append] at N9 ndZ
    rotate_right
    --T3
    intro i9 v9 T9 t9 b9 u9 h9 tk9 I9 oI9 J9 oJ9 hv9 hT9 hK9 ndT F9 N9
    have hlt : i9 < kn.length := by
      have := (List.getElem?_eq_some_iff.mp hv9).1
      lia
    obtain ⟨v8, hv8, a8, o8, n8, t1, t2, e8, m8, hc8, hd8, hl8⟩ := hs9.at i9 hlt
    have e7 := Option.some.inj (hv9.symm.trans hv8)
    subst e8
    subst e7
    obtain ⟨omp9, ms9⟩ := b9
    rcases i9 with _ | k9
    simp only [KB] at hK9
    obtain ⟨hms, hOmp9⟩ := hK9
    subst hms
    simp only [LedB, mapsL, daL, List.cons_append, List.nil_append] at N9
    rotate_left
    simp only [KB] at hK9
    obtain ⟨a0, b0, f0, hms, hOmp9, oa, ob, oe⟩ := hK9
    subst hms
    have ndS := ndT
    clear ndT
    simp only [LedB, mapsL, daL, List.cons_append, List.nil_append] at N9
    rotate_right
    --E3
  k_with "unp" =>
    (with_reducible show wpAny _ _ (assign (PySem.Expr.Tuple _ _ _) _ (Value.ref a8)) _ _ _)
    k_dflt (refine' unpackN_ ?F ?N (tup_of ?N2 ?m8 hc8 hd8) ?q1 ?q2 ?q3 ?_; (case F => k_asm); (case N => k_asm); (case N2 => k_asm); (case m8 => (repeat (first | exact m8 | refine List.mem_cons_of_mem _ ?_ | refine List.mem_append_right _ ?_))); (case q1 => exact rfl); (case q2 => exact rfl); (case q3 => exact rfl))
    intro h' F' N'
  k_with "dput" =>
    first
      | ((with_reducible show wpAny _ _ (call (Value.ref _) [Value.ref _, Value.str (Str.ofString "gcb") _, _, _, _]) _ _ _)
         k_dflt (refine' CtrM.useP (put_new w d dd df mp q u pp ww odf omp9 kvd [] (Str.ofString "gcb") _ dfg (.s (Str.ofString "Other")) true (fun c => .s ((dbOf kn).g c)) _ _ _ _ hkd hvg hig rfl hOmp9 rfl (Nat.le_of_ble_eq_true rfl) loF loM db_g rfl rfl (nodup_split (pz0_d (P := [(I9, oI9), (J9, oJ9)]) (D := (daL d dd df mp q u pp ww odf omp9)) (R := [(ka, W.listOf c9.kvs.toArray c9.c), (_, oc), (dk, c9.od), (la, W.listOf c9.us.toArray c9.n)]) (T := c9.tl) ndT)).1) ([(I9, oI9), (J9, oJ9)] ++ ([(ka, W.listOf c9.kvs.toArray c9.c), (_, oc), (dk, c9.od), (la, W.listOf c9.us.toArray c9.n)] ++ c9.tl)) ?k1 ?k2 ?k3 (pz0 (P := [(I9, oI9), (J9, oJ9)]) (D := (daL d dd df mp q u pp ww odf omp9)) (R := [(ka, W.listOf c9.kvs.toArray c9.c), (_, oc), (dk, c9.od), (la, W.listOf c9.us.toArray c9.n)]) (T := c9.tl) ?k4) (fun p hp => hp) (pz0_d (P := [(I9, oI9), (J9, oJ9)]) (D := (daL d dd df mp q u pp ww odf omp9)) (R := [(ka, W.listOf c9.kvs.toArray c9.c), (_, oc), (dk, c9.od), (la, W.listOf c9.us.toArray c9.n)]) (T := c9.tl) ndT) ?k5 ?k6 ?k7 ?k8 ?k9 PutNew.nd ?_; (case k1 => k_asm); (case k2 => k_asm); (case k3 => k_asm); (case k4 => k_asm); (case k5 => k_asm); (case k6 => first | exact rfl | assumption); (case k7 => trivial); (case k8 => ktr_room); (case k9 => ktr_units))
         intro r1 h1 tk1 mu1 F1 N1 nd1 hr1
         unfold PutNew at hr1
         obtain ⟨e1, ma, omp1, e2, hO1, -, oka⟩ := hr1
         subst e1
         subst e2
         simp only [List.nil_append, List.cons_append] at hO1
         k_dflt (have ndA := pz1_d (A := ma.L) (D := (daL d dd df mp q u pp ww odf omp1)) (P := [(I9, oI9), (J9, oJ9)]) (R := [(ka, W.listOf c9.kvs.toArray c9.c), (_, oc), (dk, c9.od), (la, W.listOf c9.us.toArray c9.n)]) (T := c9.tl) nd1)
         k_dflt (have N0 := pz1 (A := ma.L) (D := (daL d dd df mp q u pp ww odf omp1)) (P := [(I9, oI9), (J9, oJ9)]) (R := [(ka, W.listOf c9.kvs.toArray c9.c), (_, oc), (dk, c9.od), (la, W.listOf c9.us.toArray c9.n)]) (T := c9.tl) N1)
         clear N1 nd1
         simp only [daL, List.cons_append, List.nil_append] at N0)
      | ((with_reducible show wpAny _ _ (call (Value.ref _) [Value.ref _, Value.str (Str.ofString "incb") _, _, _, _]) _ _ _)
         k_dflt (refine' CtrM.useP (put_new w d dd df mp q u pp ww odf omp1 kvd [(Str.ofString "gcb", Value.ref ma.x)] (Str.ofString "incb") _ dfi (.s (Str.ofString "None")) true (fun c => .s ((dbOf kn).i c)) _ _ _ _ hkd hvi hii rfl hO1 rfl (Nat.le_of_ble_eq_true rfl) loF loM db_i rfl rfl (nodup_split (pz0_d (P := [(I9, oI9), (J9, oJ9)]) (D := (daL d dd df mp q u pp ww odf omp1)) (R := [(ka, W.listOf c9.kvs.toArray c9.c), (_, oc), (dk, c9.od), (la, W.listOf c9.us.toArray c9.n)]) (T := ma.L ++ c9.tl) ndA)).1) ([(I9, oI9), (J9, oJ9)] ++ ([(ka, W.listOf c9.kvs.toArray c9.c), (_, oc), (dk, c9.od), (la, W.listOf c9.us.toArray c9.n)] ++ (ma.L ++ c9.tl))) ?k1 ?k2 ?k3 (pz0 (P := [(I9, oI9), (J9, oJ9)]) (D := (daL d dd df mp q u pp ww odf omp1)) (R := [(ka, W.listOf c9.kvs.toArray c9.c), (_, oc), (dk, c9.od), (la, W.listOf c9.us.toArray c9.n)]) (T := ma.L ++ c9.tl) ?k4) (fun p hp => hp) (pz0_d (P := [(I9, oI9), (J9, oJ9)]) (D := (daL d dd df mp q u pp ww odf omp1)) (R := [(ka, W.listOf c9.kvs.toArray c9.c), (_, oc), (dk, c9.od), (la, W.listOf c9.us.toArray c9.n)]) (T := ma.L ++ c9.tl) ndA) ?k5 ?k6 ?k7 ?k8 ?k9 PutNew.nd ?_; (case k1 => k_asm); (case k2 => k_asm); (case k3 => k_asm); (case k4 => k_asm); (case k5 => k_asm); (case k6 => first | exact rfl | assumption); (case k7 => trivial); (case k8 => ktr_room); (case k9 => ktr_units))
         intro r1 h1 tk1 mu1 F1 N1 nd1 hr1
         unfold PutNew at hr1
         obtain ⟨e1, mb, omp2, e2, hO2, -, okb⟩ := hr1
         subst e1
         subst e2
         simp only [List.nil_append, List.cons_append] at hO2
         k_dflt (have ndB := pz3_d (A := ma.L) (B := mb.L) (D := (daL d dd df mp q u pp ww odf omp2)) (P := [(I9, oI9), (J9, oJ9)]) (R := [(ka, W.listOf c9.kvs.toArray c9.c), (_, oc), (dk, c9.od), (la, W.listOf c9.us.toArray c9.n)]) (T := c9.tl) nd1)
         k_dflt (have N0 := pz3 (A := ma.L) (B := mb.L) (D := (daL d dd df mp q u pp ww odf omp2)) (P := [(I9, oI9), (J9, oJ9)]) (R := [(ka, W.listOf c9.kvs.toArray c9.c), (_, oc), (dk, c9.od), (la, W.listOf c9.us.toArray c9.n)]) (T := c9.tl) N1)
         clear N1 nd1
         simp only [daL, List.cons_append, List.nil_append] at N0)
      | ((with_reducible show wpAny _ _ (call (Value.ref _) [Value.ref _, Value.str (Str.ofString "ep") _, _, _, _]) _ _ _)
         k_dflt (refine' CtrM.useP (put_new w d dd df mp q u pp ww odf omp2 kvd [(Str.ofString "gcb", Value.ref ma.x), (Str.ofString "incb", Value.ref mb.x)] (Str.ofString "ep") _ dfe (.b false) false (fun c => .b ((dbOf kn).e c)) _ _ _ _ hkd hve hie rfl hO2 rfl (Nat.le_of_ble_eq_true rfl) loF loM db_e rfl rfl (nodup_split (pz0_d (P := [(I9, oI9), (J9, oJ9)]) (D := (daL d dd df mp q u pp ww odf omp2)) (R := [(ka, W.listOf c9.kvs.toArray c9.c), (_, oc), (dk, c9.od), (la, W.listOf c9.us.toArray c9.n)]) (T := ma.L ++ (mb.L ++ c9.tl)) ndB)).1) ([(I9, oI9), (J9, oJ9)] ++ ([(ka, W.listOf c9.kvs.toArray c9.c), (_, oc), (dk, c9.od), (la, W.listOf c9.us.toArray c9.n)] ++ (ma.L ++ (mb.L ++ c9.tl)))) ?k1 ?k2 ?k3 (pz0 (P := [(I9, oI9), (J9, oJ9)]) (D := (daL d dd df mp q u pp ww odf omp2)) (R := [(ka, W.listOf c9.kvs.toArray c9.c), (_, oc), (dk, c9.od), (la, W.listOf c9.us.toArray c9.n)]) (T := ma.L ++ (mb.L ++ c9.tl)) ?k4) (fun p hp => hp) (pz0_d (P := [(I9, oI9), (J9, oJ9)]) (D := (daL d dd df mp q u pp ww odf omp2)) (R := [(ka, W.listOf c9.kvs.toArray c9.c), (_, oc), (dk, c9.od), (la, W.listOf c9.us.toArray c9.n)]) (T := ma.L ++ (mb.L ++ c9.tl)) ndB) ?k5 ?k6 ?k7 ?k8 ?k9 PutNew.nd ?_; (case k1 => k_asm); (case k2 => k_asm); (case k3 => k_asm); (case k4 => k_asm); (case k5 => k_asm); (case k6 => first | exact rfl | assumption); (case k7 => trivial); (case k8 => ktr_room); (case k9 => ktr_units))
         intro r1 h1 tk1 mu1 F1 N1 nd1 hr1
         unfold PutNew at hr1
         obtain ⟨e1, me, omp3, e2, hO3, -, oke⟩ := hr1
         subst e1
         subst e2
         simp only [List.nil_append, List.cons_append] at hO3
         k_dflt (have ndF := pz5_d (A := ma.L) (B := mb.L) (E := me.L) (D := (daL d dd df mp q u pp ww odf omp3)) (P := [(I9, oI9), (J9, oJ9)]) (R := [(ka, W.listOf c9.kvs.toArray c9.c), (_, oc), (dk, c9.od), (la, W.listOf c9.us.toArray c9.n)]) (T := c9.tl) nd1)
         k_dflt (have N0 := pz5 (A := ma.L) (B := mb.L) (E := me.L) (D := (daL d dd df mp q u pp ww odf omp3)) (P := [(I9, oI9), (J9, oJ9)]) (R := [(ka, W.listOf c9.kvs.toArray c9.c), (_, oc), (dk, c9.od), (la, W.listOf c9.us.toArray c9.n)]) (T := c9.tl) N1)
         clear N1 nd1
         simp only [daL, List.cons_append, List.nil_append] at N0)
      | ((with_reducible show wpAny _ _ (call (Value.ref _) [Value.ref _, Value.str (Str.ofString "gcb") _, _, _, _]) _ _ _)
         k_dflt (refine' CtrM.useP (put_old w d dd df mp q u pp ww odf omp9 [(Str.ofString "gcb", Value.ref a0.x), (Str.ofString "incb", Value.ref b0.x), (Str.ofString "ep", Value.ref f0.x)] (Str.ofString "gcb") _ a0 true (k9 + 1) (fun c => .s ((dbOf kn).g c)) _ _ _ _ hOmp9 rfl loM oa db_g rfl rfl (by lia) (nodup_split (po1_d (A := a0.L) (B := b0.L) (E := f0.L) (D := (daL d dd df mp q u pp ww odf omp9)) (P := [(I9, oI9), (J9, oJ9)]) (R := [(ka, W.listOf c9.kvs.toArray c9.c), (_, oc), (dk, c9.od), (la, W.listOf c9.us.toArray c9.n)]) (T := c9.tl) ndS)).1) ([(I9, oI9), (J9, oJ9)] ++ ([(ka, W.listOf c9.kvs.toArray c9.c), (_, oc), (dk, c9.od), (la, W.listOf c9.us.toArray c9.n)] ++ (b0.L ++ (f0.L ++ c9.tl)))) ?k1 ?k2 ?k3 (po1 (A := a0.L) (B := b0.L) (E := f0.L) (D := (daL d dd df mp q u pp ww odf omp9)) (P := [(I9, oI9), (J9, oJ9)]) (R := [(ka, W.listOf c9.kvs.toArray c9.c), (_, oc), (dk, c9.od), (la, W.listOf c9.us.toArray c9.n)]) (T := c9.tl) ?k4) (fun p hp => hp) (po1_d (A := a0.L) (B := b0.L) (E := f0.L) (D := (daL d dd df mp q u pp ww odf omp9)) (P := [(I9, oI9), (J9, oJ9)]) (R := [(ka, W.listOf c9.kvs.toArray c9.c), (_, oc), (dk, c9.od), (la, W.listOf c9.us.toArray c9.n)]) (T := c9.tl) ndS) ?k5 ?k6 ?k7 ?k8 ?k9 PutOld.nd ?_; (case k1 => k_asm); (case k2 => k_asm); (case k3 => k_asm); (case k4 => k_asm); (case k5 => k_asm); (case k6 => first | exact rfl | assumption); (case k7 => trivial); (case k8 => ktr_room); (case k9 => ktr_units))
         intro r1 h1 tk1 mu1 F1 N1 nd1 hr1
         unfold PutOld at hr1
         obtain ⟨e1, a1, ea, e2, -, oka⟩ := hr1
         subst e1
         subst e2
         k_dflt (have ndA := pb1_d (A := a1.L) (B := b0.L) (E := f0.L) (D := (daL d dd df mp q u pp ww odf omp9)) (P := [(I9, oI9), (J9, oJ9)]) (R := [(ka, W.listOf c9.kvs.toArray c9.c), (_, oc), (dk, c9.od), (la, W.listOf c9.us.toArray c9.n)]) (T := c9.tl) nd1)
         k_dflt (have N0 := pb1 (A := a1.L) (B := b0.L) (E := f0.L) (D := (daL d dd df mp q u pp ww odf omp9)) (P := [(I9, oI9), (J9, oJ9)]) (R := [(ka, W.listOf c9.kvs.toArray c9.c), (_, oc), (dk, c9.od), (la, W.listOf c9.us.toArray c9.n)]) (T := c9.tl) N1)
         clear N1 nd1
         simp only [daL, List.cons_append, List.nil_append] at N0)
      | ((with_reducible show wpAny _ _ (call (Value.ref _) [Value.ref _, Value.str (Str.ofString "incb") _, _, _, _]) _ _ _)
         k_dflt (refine' CtrM.useP (put_old w d dd df mp q u pp ww odf omp9 [(Str.ofString "gcb", Value.ref a0.x), (Str.ofString "incb", Value.ref b0.x), (Str.ofString "ep", Value.ref f0.x)] (Str.ofString "incb") _ b0 true (k9 + 1) (fun c => .s ((dbOf kn).i c)) _ _ _ _ hOmp9 rfl loM ob db_i rfl rfl (by lia) (nodup_split (po2_d (A := a1.L) (B := b0.L) (E := f0.L) (D := (daL d dd df mp q u pp ww odf omp9)) (P := [(I9, oI9), (J9, oJ9)]) (R := [(ka, W.listOf c9.kvs.toArray c9.c), (_, oc), (dk, c9.od), (la, W.listOf c9.us.toArray c9.n)]) (T := c9.tl) ndA)).1) ([(I9, oI9), (J9, oJ9)] ++ ([(ka, W.listOf c9.kvs.toArray c9.c), (_, oc), (dk, c9.od), (la, W.listOf c9.us.toArray c9.n)] ++ (a1.L ++ (f0.L ++ c9.tl)))) ?k1 ?k2 ?k3 (po2 (A := a1.L) (B := b0.L) (E := f0.L) (D := (daL d dd df mp q u pp ww odf omp9)) (P := [(I9, oI9), (J9, oJ9)]) (R := [(ka, W.listOf c9.kvs.toArray c9.c), (_, oc), (dk, c9.od), (la, W.listOf c9.us.toArray c9.n)]) (T := c9.tl) ?k4) (fun p hp => hp) (po2_d (A := a1.L) (B := b0.L) (E := f0.L) (D := (daL d dd df mp q u pp ww odf omp9)) (P := [(I9, oI9), (J9, oJ9)]) (R := [(ka, W.listOf c9.kvs.toArray c9.c), (_, oc), (dk, c9.od), (la, W.listOf c9.us.toArray c9.n)]) (T := c9.tl) ndA) ?k5 ?k6 ?k7 ?k8 ?k9 PutOld.nd ?_; (case k1 => k_asm); (case k2 => k_asm); (case k3 => k_asm); (case k4 => k_asm); (case k5 => k_asm); (case k6 => first | exact rfl | assumption); (case k7 => trivial); (case k8 => ktr_room); (case k9 => ktr_units))
         intro r1 h1 tk1 mu1 F1 N1 nd1 hr1
         unfold PutOld at hr1
         obtain ⟨e1, b1, eb, e2, -, okb⟩ := hr1
         subst e1
         subst e2
         k_dflt (have ndB := pb2_d (A := a1.L) (B := b1.L) (E := f0.L) (D := (daL d dd df mp q u pp ww odf omp9)) (P := [(I9, oI9), (J9, oJ9)]) (R := [(ka, W.listOf c9.kvs.toArray c9.c), (_, oc), (dk, c9.od), (la, W.listOf c9.us.toArray c9.n)]) (T := c9.tl) nd1)
         k_dflt (have N0 := pb2 (A := a1.L) (B := b1.L) (E := f0.L) (D := (daL d dd df mp q u pp ww odf omp9)) (P := [(I9, oI9), (J9, oJ9)]) (R := [(ka, W.listOf c9.kvs.toArray c9.c), (_, oc), (dk, c9.od), (la, W.listOf c9.us.toArray c9.n)]) (T := c9.tl) N1)
         clear N1 nd1
         simp only [daL, List.cons_append, List.nil_append] at N0)
      | ((with_reducible show wpAny _ _ (call (Value.ref _) [Value.ref _, Value.str (Str.ofString "ep") _, _, _, _]) _ _ _)
         k_dflt (refine' CtrM.useP (put_old w d dd df mp q u pp ww odf omp9 [(Str.ofString "gcb", Value.ref a0.x), (Str.ofString "incb", Value.ref b0.x), (Str.ofString "ep", Value.ref f0.x)] (Str.ofString "ep") _ f0 false (k9 + 1) (fun c => .b ((dbOf kn).e c)) _ _ _ _ hOmp9 rfl loM oe db_e rfl rfl (by lia) (nodup_split (po3_d (A := a1.L) (B := b1.L) (E := f0.L) (D := (daL d dd df mp q u pp ww odf omp9)) (P := [(I9, oI9), (J9, oJ9)]) (R := [(ka, W.listOf c9.kvs.toArray c9.c), (_, oc), (dk, c9.od), (la, W.listOf c9.us.toArray c9.n)]) (T := c9.tl) ndB)).1) ([(I9, oI9), (J9, oJ9)] ++ ([(ka, W.listOf c9.kvs.toArray c9.c), (_, oc), (dk, c9.od), (la, W.listOf c9.us.toArray c9.n)] ++ (a1.L ++ (b1.L ++ c9.tl)))) ?k1 ?k2 ?k3 (po3 (A := a1.L) (B := b1.L) (E := f0.L) (D := (daL d dd df mp q u pp ww odf omp9)) (P := [(I9, oI9), (J9, oJ9)]) (R := [(ka, W.listOf c9.kvs.toArray c9.c), (_, oc), (dk, c9.od), (la, W.listOf c9.us.toArray c9.n)]) (T := c9.tl) ?k4) (fun p hp => hp) (po3_d (A := a1.L) (B := b1.L) (E := f0.L) (D := (daL d dd df mp q u pp ww odf omp9)) (P := [(I9, oI9), (J9, oJ9)]) (R := [(ka, W.listOf c9.kvs.toArray c9.c), (_, oc), (dk, c9.od), (la, W.listOf c9.us.toArray c9.n)]) (T := c9.tl) ndB) ?k5 ?k6 ?k7 ?k8 ?k9 PutOld.nd ?_; (case k1 => k_asm); (case k2 => k_asm); (case k3 => k_asm); (case k4 => k_asm); (case k5 => k_asm); (case k6 => first | exact rfl | assumption); (case k7 => trivial); (case k8 => ktr_room); (case k9 => ktr_units))
         intro r1 h1 tk1 mu1 F1 N1 nd1 hr1
         unfold PutOld at hr1
         obtain ⟨e1, f1, ef, e2, -, oke⟩ := hr1
         subst e1
         subst e2
         k_dflt (have ndF := pb3_d (A := a1.L) (B := b1.L) (E := f1.L) (D := (daL d dd df mp q u pp ww odf omp9)) (P := [(I9, oI9), (J9, oJ9)]) (R := [(ka, W.listOf c9.kvs.toArray c9.c), (_, oc), (dk, c9.od), (la, W.listOf c9.us.toArray c9.n)]) (T := c9.tl) nd1)
         k_dflt (have N0 := pb3 (A := a1.L) (B := b1.L) (E := f1.L) (D := (daL d dd df mp q u pp ww odf omp9)) (P := [(I9, oI9), (J9, oJ9)]) (R := [(ka, W.listOf c9.kvs.toArray c9.c), (_, oc), (dk, c9.od), (la, W.listOf c9.us.toArray c9.n)]) (T := c9.tl) N1)
         clear N1 nd1
         simp only [daL, List.cons_append, List.nil_append] at N0)
  k_with "len" =>
    k_dflt (refine' kun_lenL (k := ((y9.ms.length : Nat) : Int)) ?k1 ?k2 ?k3 ?_; (case k1 => exact News.isList (by k_asm) (by k_mem)); (case k2 => first | (rw [List.size_toArray, htl]; done) | (rw [List.size_toArray]; lia)); (case k3 => lia))
  k_with "sure" =>
    k_dflt (refine' Ctr.use (c_sure w d (dbOf kn) ((txOf y9.ms).getD (1 + (i9 : Int) - 1).toNat 0) ((txOf y9.ms).getD (1 + (i9 : Int)).toNat 0) _ _ (Codes.lo hcd (by rw [tx_len, eL]; lia)) (Codes.hi hcd (by rw [tx_len, eL]; lia)) (Codes.lo hcd (by rw [tx_len, eR]; lia)) (Codes.hi hcd (by rw [tx_len, eR]; lia))) ?k1 ?k2 ?k3 ?k4 ?k5 ?k6 ?k7 ?k8 ?k9 ?_; (case k1 => k_asm); (case k2 => k_asm); (case k3 => k_asm); (case k4 => k_asm); (case k5 => k_asm); (case k6 => first | exact rfl | assumption); (case k7 => exact hZd _ _ _ (news_sub (by k_asm) (by (repeat (first | with_reducible exact List.forall_mem_nil _ | with_reducible exact fun p hp => hp | with_reducible refine List.forall_mem_cons.mpr ⟨?_, ?_⟩ | with_reducible refine sub_app ?_ ?_ | with_reducible exact List.mem_cons_self | with_reducible exact sub_l | with_reducible refine List.mem_cons_of_mem _ ?_ | with_reducible refine sub_tail ?_ | with_reducible refine sub_r ?_ | with_reducible refine List.mem_append_right _ ?_))))); (case k8 => ktr_room); (case k9 => ktr_units))
    intro r9 h8 tk8 st8 F8 N8 hr9
    rw [eL, eR] at hr9
    subst hr9
    rcases hsu : sure (dbOf kn) ((txOf y9.ms).getD i9 0) ((txOf y9.ms).getD (i9 + 1) 0) with _ | _
  k_with "safe" =>
    k_dflt (refine' Ctr.use (c_safe w d (dbOf kn) D1 tv (txOf y9.ms) (0 + (i9 : Int)) _ (txt_of htv hyb (by lia)) (by lia) (by rw [tx_len]; lia)) ?k1 ?k2 ?k3 ?k4 ?k5 ?k6 ?k7 ?k8 ?k9 ?_; (case k1 => k_asm); (case k2 => k_asm); (case k3 => k_asm); (case k4 => k_asm); (case k5 => k_asm); (case k6 => first | exact rfl | assumption); (case k7 => exact (all_at (by k_asm) (by (repeat (first | with_reducible exact List.forall_mem_nil _ | with_reducible exact fun p hp => hp | with_reducible refine List.forall_mem_cons.mpr ⟨?_, ?_⟩ | with_reducible refine sub_app ?_ ?_ | with_reducible exact List.mem_cons_self | with_reducible exact sub_l | with_reducible refine List.mem_cons_of_mem _ ?_ | with_reducible refine sub_tail ?_ | with_reducible refine sub_r ?_ | with_reducible refine List.mem_append_right _ ?_))) (by k_mem) (by k_mem) hZd hZt hs9 hrv hyk (by lia) : _ ∧ RowAt D2 _ _ _).1); (case k8 => ktr_room); (case k9 => ktr_units))
    intro r9 h8 tk8 st8 F8 N8 hr9
    obtain ⟨tS, hr9⟩ := hr9
    rw [show (0 + (i9 : Int)).toNat = i9 by lia] at hr9
    subst hr9
  k_with "cut" =>
    first
      | (have hct := cut_sure ho9 hyk hi1 hsu
         k_dflt (refine' Ctr.use (c_cut w D2 rv (rowK kn y9.ms) (1 + (i9 : Int)) _ false (by lia) (by rw [row_lenK]; lia)) ?k1 ?k2 ?k3 ?k4 ?k5 ?k6 ?k7 ?k8 ?k9 ?_; (case k1 => k_asm); (case k2 => k_asm); (case k3 => k_asm); (case k4 => k_asm); (case k5 => k_asm); (case k6 => first | exact rfl | assumption); (case k7 => exact (all_at (by k_asm) (by (repeat (first | with_reducible exact List.forall_mem_nil _ | with_reducible exact fun p hp => hp | with_reducible refine List.forall_mem_cons.mpr ⟨?_, ?_⟩ | with_reducible refine sub_app ?_ ?_ | with_reducible exact List.mem_cons_self | with_reducible exact sub_l | with_reducible refine List.mem_cons_of_mem _ ?_ | with_reducible refine sub_tail ?_ | with_reducible refine sub_r ?_ | with_reducible refine List.mem_append_right _ ?_))) (by k_mem) (by k_mem) hZd hZt hs9 hrv hyk (by lia) : TextAt _ _ _ D1 _ _ ∧ _).2); (case k8 => ktr_room); (case k9 => ktr_units))
         intro r9 h8 tk8 st8 F8 N8 hr9
         rw [hct] at hr9
         subst hr9)
      | (have hct := sf2 (by lia) (by lia)
         k_dflt (refine' Ctr.use (c_cut w D2 rv (rowK kn y9.ms) (safe (dbOf kn) (txOf y9.ms) i9) _ false (by lia) (by rw [row_lenK]; lia)) ?k1 ?k2 ?k3 ?k4 ?k5 ?k6 ?k7 ?k8 ?k9 ?_; (case k1 => k_asm); (case k2 => k_asm); (case k3 => k_asm); (case k4 => k_asm); (case k5 => k_asm); (case k6 => first | exact rfl | assumption); (case k7 => exact (all_at (by k_asm) (by (repeat (first | with_reducible exact List.forall_mem_nil _ | with_reducible exact fun p hp => hp | with_reducible refine List.forall_mem_cons.mpr ⟨?_, ?_⟩ | with_reducible refine sub_app ?_ ?_ | with_reducible exact List.mem_cons_self | with_reducible exact sub_l | with_reducible refine List.mem_cons_of_mem _ ?_ | with_reducible refine sub_tail ?_ | with_reducible refine sub_r ?_ | with_reducible refine List.mem_append_right _ ?_))) (by k_mem) (by k_mem) hZd hZt hs9 hrv hyk (by lia) : TextAt _ _ _ D1 _ _ ∧ _).2); (case k8 => ktr_room); (case k9 => ktr_units))
         intro r9 h8 tk8 st8 F8 N8 hr9
         rw [hct] at hr9
         subst hr9)
  k_with "slice" =>
    k_dflt (refine' kmk_slice_lit ?w9F ?w9N ?w9l ?w9p ?w9q ?w9e ?_ ?w9s ?w9t ?w9z; (case w9F => k_asm); (case w9N => k_asm); (case w9l => exact News.isList (by k_asm) (by k_mem)); (case w9p => kmk_part); (case w9q => kmk_part); (case w9e => exact slice2 hvL hvR (by lia) (by lia)); (case w9s => with_unfolding_all rfl); (case w9t => kmk_pure); (case w9z => rw [List.size_toArray, PySem.sizeLine_eq, hrv.length]; lia))
    intro D' h' F' N' l1
    (try k_lt l1)
  k_with "eqr" =>
    k_dflt (refine' eq_rows (x := (rowK kn y9.ms).getD i9 s0) (y := (rowK kn y9.ms).getD (i9 + 1) s0) (z := kn.getD 0 s0) ?w9l ?w9b (tup_of ?w9N1 ?w9m1 cL dL) (tup_of ?w9N2 ?w9m2 cR dR) (tup_of ?w9N3 ?w9m3 cK dK) ?w9hu ?w9hu2 ?_; (case w9l => exact News.isList (by k_asm) (by k_mem)); (case w9b => exact News.isList (by k_asm) (by k_mem)); (case w9N1 => k_asm); (case w9N2 => k_asm); (case w9N3 => k_asm); (case w9m1 => (repeat (first | exact mL | refine List.mem_cons_of_mem _ ?_))); (case w9m2 => (repeat (first | exact mR | refine List.mem_cons_of_mem _ ?_))); (case w9m3 => (repeat (first | exact hmK | refine List.mem_cons_of_mem _ ?_))); (case w9hu => ktr_units); (case w9hu2 => ktr_units))
    rw [unsure_same hi1 hsu hz9]
  k_with "inlf" =>
    k_dflt (refine' in_tuple_strs (ys := [((rowK kn y9.ms).getD i9 s0).g, ((rowK kn y9.ms).getD (i9 + 1) s0).g]) (News.isTup ?N ?m) ?hi ?_; (case N => k_asm); (case m => k_mem); (case hi => (repeat constructor)))
    rcases hlf : ([((rowK kn y9.ms).getD i9 s0).g, ((rowK kn y9.ms).getD (i9 + 1) s0).g].any fun x => x == Str.ofString "LF") with _ | _
  ((try ((with_reducible rename Rim => m9); revert m9; intro _)); k_steps)
  all_goals (try dsimp only)
  all_goals try first
    | (w_end; (show GoodW _ _ _ _ _ (.ok (.ret (.bool _))) _); refine' goodW_bool ?w9a ?w9b (raisesW_false ?w9c) ?w9d; (case w9a => first | with_reducible assumption | assumption); (case w9b => first | with_reducible assumption | assumption); (case w9c => exact law_raises _); (case w9d => exact law_post _))
    | ((with_reducible show ElemEnd _ _ _ _ _ _ _ _); first | exact ElemEnd.mk (by assumption) (by assumption) ⟨_, rfl⟩ | exact ElemEnd.mk (by assumption) (by assumption) hv6)
    | ((with_reducible show TurnG _ _ _ _ _ _ _ _ _ _ Flow.next _); (refine' TurnG.mk () ?w9F ?w9N ?w9o ?w9l (List.forall_mem_nil _) ?w9r trivial; (case w9F => assumption); (case w9N => assumption); (case w9r => (repeat (first | with_reducible exact hr_nil | with_reducible exact hr_nil' | with_reducible refine hr_cons (by decide) ?_))); (case w9o => (repeat (first | with_reducible exact List.forall_mem_nil _ | with_reducible exact fun p hp => hp | with_reducible refine List.forall_mem_cons.mpr ⟨?_, ?_⟩ | with_reducible refine sub_app ?_ ?_ | with_reducible exact List.mem_cons_self | with_reducible exact sub_l | with_reducible refine List.mem_cons_of_mem _ ?_ | with_reducible refine sub_tail ?_ | with_reducible refine sub_r ?_ | with_reducible refine List.mem_append_right _ ?_))); (case w9l => (repeat (first | with_reducible exact List.forall_mem_nil _ | with_reducible exact fun p hp => hp | with_reducible refine List.forall_mem_cons.mpr ⟨?_, ?_⟩ | with_reducible refine sub_app ?_ ?_ | with_reducible exact List.mem_cons_self | with_reducible exact sub_l | with_reducible refine List.mem_cons_of_mem _ ?_ | with_reducible refine sub_tail ?_ | with_reducible refine sub_r ?_ | with_reducible refine List.mem_append_right _ ?_)))))
    | (exfalso; exact unsure_lf ho9 hyk hi1 hsu hlf (by assumption))
    | ((with_reducible show TurnN _ _ _ _ _ _ _ _ _ _ Flow.next _); k_dflt (first
      | (refine' TurnN.mk _ (by assumption) N2 ?ho ?hl ?w9n (List.forall_mem_nil _) ?w9r (KA.next hs9 hl9 ho9 hz9 hd3 hg9 ?w9c ?w9d); (case w9n => exact nd1); (case w9c => exact rfl); (case w9d => exact rfl); (case w9r => (repeat (first | with_reducible exact hr_nil | with_reducible exact hr_nil' | with_reducible refine hr_cons (by decide) ?_))); (case ho => (repeat (first | with_reducible exact List.forall_mem_nil _ | with_reducible exact fun p hp => hp | with_reducible refine List.forall_mem_cons.mpr ⟨?_, ?_⟩ | with_reducible refine sub_app ?_ ?_ | with_reducible exact List.mem_cons_self | with_reducible exact sub_l | with_reducible refine List.mem_cons_of_mem _ ?_ | with_reducible refine sub_tail ?_ | with_reducible refine sub_r ?_ | with_reducible refine List.mem_append_right _ ?_))); (case hl => (simp only [LedA]; (repeat (first | with_reducible exact List.forall_mem_nil _ | with_reducible exact fun p hp => hp | with_reducible refine List.forall_mem_cons.mpr ⟨?_, ?_⟩ | with_reducible refine sub_app ?_ ?_ | with_reducible exact List.mem_cons_self | with_reducible exact sub_l | with_reducible refine List.mem_cons_of_mem _ ?_ | with_reducible refine sub_tail ?_ | with_reducible refine sub_r ?_ | with_reducible refine List.mem_append_right _ ?_)))))
      | (refine' TurnN.mk (⟨omp3, some (ma, mb, me)⟩ : SB) (by assumption) N0 ?ho ?hl ndF (List.forall_mem_nil _) ?w9r (KB.step rfl rfl rfl hO3 oka okb oke); (case w9r => (repeat (first | with_reducible exact hr_nil | with_reducible exact hr_nil' | with_reducible refine hr_cons (by decide) ?_))); (case ho => (repeat (first | with_reducible exact List.forall_mem_nil _ | with_reducible exact fun p hp => hp | with_reducible refine List.forall_mem_cons.mpr ⟨?_, ?_⟩ | with_reducible refine sub_app ?_ ?_ | with_reducible exact List.mem_cons_self | with_reducible exact sub_l | with_reducible refine List.mem_cons_of_mem _ ?_ | with_reducible refine sub_tail ?_ | with_reducible refine sub_r ?_ | with_reducible refine List.mem_append_right _ ?_))); (case hl => (simp only [LedB, mapsL, daL, List.cons_append, List.nil_append]; (repeat (first | with_reducible exact List.forall_mem_nil _ | with_reducible exact fun p hp => hp | with_reducible refine List.forall_mem_cons.mpr ⟨?_, ?_⟩ | with_reducible refine sub_app ?_ ?_ | with_reducible exact List.mem_cons_self | with_reducible exact sub_l | with_reducible refine List.mem_cons_of_mem _ ?_ | with_reducible refine sub_tail ?_ | with_reducible refine sub_r ?_ | with_reducible refine List.mem_append_right _ ?_)))))
      | (refine' TurnN.mk (⟨omp9, some (a1, b1, f1)⟩ : SB) (by assumption) N0 ?ho ?hl ndF (List.forall_mem_nil _) ?w9r (KB.step ea eb ef hOmp9 oka okb oke); (case w9r => (repeat (first | with_reducible exact hr_nil | with_reducible exact hr_nil' | with_reducible refine hr_cons (by decide) ?_))); (case ho => (repeat (first | with_reducible exact List.forall_mem_nil _ | with_reducible exact fun p hp => hp | with_reducible refine List.forall_mem_cons.mpr ⟨?_, ?_⟩ | with_reducible refine sub_app ?_ ?_ | with_reducible exact List.mem_cons_self | with_reducible exact sub_l | with_reducible refine List.mem_cons_of_mem _ ?_ | with_reducible refine sub_tail ?_ | with_reducible refine sub_r ?_ | with_reducible refine List.mem_append_right _ ?_))); (case hl => (simp only [LedB, mapsL, daL, List.cons_append, List.nil_append]; (repeat (first | with_reducible exact List.forall_mem_nil _ | with_reducible exact fun p hp => hp | with_reducible refine List.forall_mem_cons.mpr ⟨?_, ?_⟩ | with_reducible refine sub_app ?_ ?_ | with_reducible exact List.mem_cons_self | with_reducible exact sub_l | with_reducible refine List.mem_cons_of_mem _ ?_ | with_reducible refine sub_tail ?_ | with_reducible refine sub_r ?_ | with_reducible refine List.mem_append_right _ ?_)))))
      | (refine' TurnN.mk _ (by assumption) N2 ?ho ?hl ?w9n (List.forall_mem_nil _) ?w9r (KC.next hyi hyl hyb hdC ?w9b); (case w9n => exact nd_set (pre := [(I9, oI9)]) ndH); (case w9r => (repeat (first | with_reducible exact hr_nil | with_reducible exact hr_nil' | with_reducible refine hr_cons (by decide) ?_))); (case ho => (repeat (first | with_reducible exact List.forall_mem_nil _ | with_reducible exact fun p hp => hp | with_reducible refine List.forall_mem_cons.mpr ⟨?_, ?_⟩ | with_reducible refine sub_app ?_ ?_ | with_reducible exact List.mem_cons_self | with_reducible exact sub_l | with_reducible refine List.mem_cons_of_mem _ ?_ | with_reducible refine sub_tail ?_ | with_reducible refine sub_r ?_ | with_reducible refine List.mem_append_right _ ?_))); (case hl => (simp only [LedC, List.cons_append, List.nil_append]; (repeat (first | with_reducible exact List.forall_mem_nil _ | with_reducible exact fun p hp => hp | with_reducible refine List.forall_mem_cons.mpr ⟨?_, ?_⟩ | with_reducible refine sub_app ?_ ?_ | with_reducible exact List.mem_cons_self | with_reducible exact sub_l | with_reducible refine List.mem_cons_of_mem _ ?_ | with_reducible refine sub_tail ?_ | with_reducible refine sub_r ?_ | with_reducible refine List.mem_append_right _ ?_)))); (case w9b => clear hneD; lia)))))

end Mine
set_option maxRecDepth 100000 in
set_option maxHeartbeats 8000000 in
theorem PySem.Challenge.cw_pq1305_01_holds : PySem.Challenge.rw_pq1305_01.Holds :=
  Mine.law_holds
