import PyProof.Rows.All
import Wide.All
import OpenK.AllK
import Wide.FinOn
import KE.KLcTest
import KE.KSortTup
import Lean
import PySem.Challenge.RW_pq0348_01
set_option Elab.async false
set_option compiler.extract_closed false
set_option genSizeOf false
noncomputable section
namespace Ov
section
open PySem PySem.W PyProof.Rows
theorem left_quick {tr : _} (hr : @topRun = tr) {tt : _} (ht : treeTable = tt) {se : _} (hs : @openSeen = se) {p q : Program} {loose : List Str} {Xt : Shared → Bool} {α : Type} {Yf : Shared → α} {Ya : World → α} {N : Nat} {g0 : Bool} {H : Params → Heap} {gs : Array GenState} {d : Drawn} {k : Nat}
    (ob : ∀ w : World, (fencedOpening treeTable p w N).map (fun s => (s.heap, s.gens, s.drawn, s.toks)) = some (H w.params, gs, d, k))
    (z : ∀ w : World, ((H w.params).isNs mainGlobals && gs.size == 0) = true)
    (top : ∀ (w : World) (os : OsState), ((tr tt p w (H w.params).objs.size ((H w.params).nsMap mainGlobals "__annotations__") N ⟨H w.params, gs, d, k, os⟩ (topStub p)).bind fun s₁ =>
      match staticsOk (importedModules p.main.body) (H w.params) s₁.heap && namesBound p s₁.heap && gensDone s₁ && laidKept (H w.params) s₁.heap with
      | true => some (se q loose (importedModules p.main.body) Xt g0 s₁, Yf s₁)
      | false => none) = some (openGood q loose, Ya w)) :
    LeftO p q loose Xt Yf Ya N g0 := fun w => by
  subst hr ht hs
  obtain ⟨⟨h', gs', d', k', os⟩, e, e'⟩ := Option.map_eq_some_iff.mp (ob w)
  obtain ⟨rfl, rfl, rfl, rfl⟩ : h' = H w.params ∧ gs' = gs ∧ d' = d ∧ k' = k := by simpa using e'
  unfold openEnds
  rw [e]
  have t := top w os
  show (topFrom treeTable p w N _).map _ = _
  unfold topFrom
  dsimp only
  rw [z w]
  obtain ⟨s₁, r, t⟩ := Option.bind_eq_some_iff.mp t
  rw [r]
  show Option.map _ (match staticsOk (importedModules p.main.body) (H w.params) s₁.heap && namesBound p s₁.heap && gensDone s₁ && laidKept (H w.params) s₁.heap with | true => some s₁ | false => none) = _
  split at t
  · exact t
  · cases t
noncomputable def vw : Program := { PySem.Challenge.pw_pq0348_01 with main := { PySem.Challenge.pw_pq0348_01.main with body := (PySem.Challenge.pw_pq0348_01.main.body.eraseIdx 23).drop 1 } }
local macro_rules | `(tactic| o_head $H) => `(tactic| (
  refine holds_open (q := vw) (loose := []) (Xt := fun s => xlAt vw [] s && recOk (RowW.records (OpenRow.toRowW PySem.Challenge.rw_pq0348_01.row)) s) (XP := XL vw []) (Yf := Hook.obs $H) (Ya := Hook.val $H) (YP := Hook.says $H) (N := 2840) ?hl (Hook.of $H) (Hook.keeps $H)
    (fun s e => xl_of s (Bool.and_eq_true_iff.mp e).1) XL.keeps (by rfl) (by rfl) (by rfl) (fun s e => recFacts_of (Bool.and_eq_true_iff.mp e).2) (by rfl) (by first | assumption | decide +kernel) (by decide +kernel) ⟨rfl, rfl, rfl, rfl, rfl, by decide +kernel⟩ ?hw ?hc
  case hl => first | (refine left_quick PySem.W.Fast.te14082659384304107361 PySem.W.Fast.te14364793385576792824 PySem.W.Fast.te4187177175401517315 (boot_open ?e1 ?e2 ?e3) ?e5 ?e4; (case e1 => kernel_rfl); (case e2 => rfl); (case e3 => (intro s; kernel_rfl)); (case e5 => (intro w; kernel_rfl)); (case e4 => (intro w os; kernel_rfl))) | (intro w; kernel_rfl)))
local macro_rules | `(tactic| o_law) => `(tactic| refine holds_law (by first | (rw [PySem.W.Fast.te9446332074065402090]; decide +kernel) | decide +kernel) fun said => ?_)
set_option maxRecDepth 100000 in
set_option maxHeartbeats 8000000 in
open_top hd for PySem.Challenge.rw_pq0348_01
end
end Ov
namespace Ov
-- == M1
section
open PySem PySem.W PySem.Calls PyProof.Rows
set_option linter.unusedVariables false

inductive V where
  | none | bool (b : Bool) | int (i : Int) | node (i : Nat) | tree | list (i : Nat) | dict
  | tup (xs : List V) | fl (xs : List V) | un

mutual
/-- no tracked list within -/
noncomputable def nl : V → Bool
  | .list _ => false
  | .tup xs => nls xs
  | .fl xs => nls xs
  | _ => true
noncomputable def nls : List V → Bool
  | [] => true
  | x :: r => nl x && nls r
end
theorem nls_append {xs ys : List V} : nls (xs ++ ys) = (nls xs && nls ys) := by
  induction xs with
  | nil => simp [nls]
  | cons x r ih => simp [nls, ih, Bool.and_assoc]
theorem nls_mem {xs : List V} : nls xs = true ↔ ∀ x ∈ xs, nl x = true := by
  induction xs with
  | nil => simp [nls]
  | cons x r ih => simp [nls, ih]

noncomputable def ov : Option Nat → V
  | .none => .none
  | .some i => .node i

/-- the nodes' fields, each a function of the node's number -/
structure St where
  num : Nat → Int
  bg : Nat → Int
  en : Nat → Int
  lim : Nat → Int
  off : Nat → Int
  red : Nat → Bool
  lf : Nat → Option Nat
  rt : Nat → Option Nat
  pa : Nat → Option Nat
  nn : Nat
  root : Option Nat
  cnt : Int
  lists : List (List V)
  places : List (Int × V)

inductive NF | num | bg | en | lim | off | red | lf | rt | pa
inductive TF | root | cnt

noncomputable def NF.name : NF → Str
  | .num => "number" | .bg => "begin" | .en => "end" | .lim => "limit" | .off => "offset" | .red => "is_red" | .lf => "left" | .rt => "right" | .pa => "parent"
noncomputable def TF.name : TF → Str
  | .root => "root" | .cnt => "count"

noncomputable def St.nf (st : St) (i : Nat) : NF → V
  | .num => .int (st.num i) | .bg => .int (st.bg i) | .en => .int (st.en i) | .lim => .int (st.lim i) | .off => .int (st.off i)
  | .red => .bool (st.red i) | .lf => ov (st.lf i) | .rt => ov (st.rt i) | .pa => ov (st.pa i)
noncomputable def St.tf (st : St) : TF → V
  | .root => ov st.root | .cnt => .int st.cnt

structure Mu where
  nd : List (Addr × Addr)
  ls : List Addr
  tr : Addr × Addr
  dc : Addr

inductive Tag | fz | it | ce | ni (i : Nat) | nx (i : Nat) | ls (i : Nat) | ti | tx | dc
  deriving DecidableEq

noncomputable abbrev tupOf (vs : List Value) (n : Nat) : Obj := { cls := .type "tuple", data := .seq vs.toArray n }

noncomputable abbrev Led0 := List (Addr × Obj)

mutual
inductive VR (μ : Mu) (own : Addr → Tag) (news : Led0) : V → Value → Prop where
  | none : VR μ own news .none .none
  | bool (b : Bool) : VR μ own news (.bool b) (.bool b)
  | int (i : Int) (t : Tok) : VR μ own news (.int i) (.int i t)
  | node {i : Nat} {p : Addr × Addr} : μ.nd[i]? = some p → VR μ own news (.node i) (.ref p.1)
  | tree : VR μ own news .tree (.ref μ.tr.1)
  | list {i : Nat} {a : Addr} : μ.ls[i]? = some a → VR μ own news (.list i) (.ref a)
  | dict : VR μ own news .dict (.ref μ.dc)
  | tup {a : Addr} {xs : List V} {vs : List Value} {n : Nat} : (a, tupOf vs n) ∈ news → own a = .fz → VRs μ own news xs vs → VR μ own news (.tup xs) (.ref a)
  | fl {a : Addr} {xs : List V} {vs : List Value} {n : Nat} : (a, listOf vs.toArray n) ∈ news → own a = .fz → VRs μ own news xs vs → VR μ own news (.fl xs) (.ref a)
inductive VRs (μ : Mu) (own : Addr → Tag) (news : Led0) : List V → List Value → Prop where
  | nil : VRs μ own news [] []
  | cons {x : V} {v : Value} {xs : List V} {vs : List Value} : VR μ own news x v → VRs μ own news xs vs → VRs μ own news (x :: xs) (v :: vs)
end

noncomputable def TV : Tag → Bool | .fz => true | _ => false
noncomputable def TS : Tag → Bool | .fz => true | .it => true | _ => false
noncomputable def TA : Tag → Bool | .fz => true | .it => true | .ce => true | _ => false

structure Stp (T : Tag → Bool) (μ : Mu) (own : Addr → Tag) (news : Led0) (μ' : Mu) (own' : Addr → Tag) (news' : Led0) : Prop where
  nd : ∀ (i : Nat) (p : Addr × Addr), μ.nd[i]? = some p → μ'.nd[i]? = some p
  ls : ∀ (i : Nat) (a : Addr), μ.ls[i]? = some a → μ'.ls[i]? = some a
  tr : μ'.tr = μ.tr
  dc : μ'.dc = μ.dc
  fr : ∀ p ∈ news, T (own p.1) = true → p ∈ news' ∧ own' p.1 = own p.1
  adr : ∀ p ∈ news, p.1 ∈ news'.map (·.1)
/-- what a value needs of a step -/
structure StV (μ : Mu) (own : Addr → Tag) (news : Led0) (μ' : Mu) (own' : Addr → Tag) (news' : Led0) : Prop where
  nd : ∀ (i : Nat) (p : Addr × Addr), μ.nd[i]? = some p → μ'.nd[i]? = some p
  ls : ∀ (i : Nat) (a : Addr), μ.ls[i]? = some a → μ'.ls[i]? = some a
  tr : μ'.tr = μ.tr
  dc : μ'.dc = μ.dc
  fr : ∀ p ∈ news, own p.1 = .fz → p ∈ news' ∧ own' p.1 = own p.1

theorem Stp.refl (T : Tag → Bool) (μ : Mu) (own : Addr → Tag) (news : Led0) : Stp T μ own news μ own news :=
  ⟨fun _ _ h => h, fun _ _ h => h, rfl, rfl, fun _ h _ => ⟨h, rfl⟩, fun p h => List.mem_map_of_mem (f := (·.1)) h⟩
theorem Stp.trans {T : Tag → Bool} {μ μ' μ'' : Mu} {own own' own'' : Addr → Tag} {news news' news'' : Led0} (a : Stp T μ own news μ' own' news') (b : Stp T μ' own' news' μ'' own'' news'') :
    Stp T μ own news μ'' own'' news'' :=
  ⟨fun i p h => b.nd i p (a.nd i p h), fun i p h => b.ls i p (a.ls i p h), b.tr.trans a.tr, b.dc.trans a.dc, fun p hp ht => by
    obtain ⟨h1, h2⟩ := a.fr p hp ht
    obtain ⟨h3, h4⟩ := b.fr p h1 (by rw [h2]; exact ht)
    exact ⟨h3, h4.trans h2⟩, fun p hp => by
    obtain ⟨q, hq, e⟩ := List.mem_map.mp (a.adr p hp)
    rw [← e]; exact b.adr q hq⟩
theorem Stp.weak {T T' : Tag → Bool} {μ μ' : Mu} {own own' : Addr → Tag} {news news' : Led0} (a : Stp T μ own news μ' own' news') (h : ∀ t, T' t = true → T t = true) : Stp T' μ own news μ' own' news' :=
  ⟨a.nd, a.ls, a.tr, a.dc, fun p hp ht => a.fr p hp (h _ ht), a.adr⟩
theorem Stp.toV {T : Tag → Bool} {μ μ' : Mu} {own own' : Addr → Tag} {news news' : Led0} (a : Stp T μ own news μ' own' news') (h : T .fz = true) : Stp TV μ own news μ' own' news' :=
  a.weak fun t ht => by cases t <;> first | exact h | cases ht
theorem Stp.toStV {T : Tag → Bool} {μ μ' : Mu} {own own' : Addr → Tag} {news news' : Led0} (a : Stp T μ own news μ' own' news') (h : T .fz = true) : StV μ own news μ' own' news' :=
  ⟨a.nd, a.ls, a.tr, a.dc, fun p hp ht => a.fr p hp (by rw [ht]; exact h)⟩
theorem Stp.AtoS {μ μ' : Mu} {own own' : Addr → Tag} {news news' : Led0} (a : Stp TA μ own news μ' own' news') : Stp TS μ own news μ' own' news' :=
  a.weak fun t ht => by cases t <;> first | rfl | cases ht

section
variable {μ μ' : Mu} {own own' : Addr → Tag} {news news' : Led0}
mutual
theorem VR.stepv0 (S : StV μ own news μ' own' news') : ∀ {x : V} {v : Value}, VR μ own news x v → VR μ' own' news' x v
  | _, _, .none => .none
  | _, _, .bool b => .bool b
  | _, _, .int i t => .int i t
  | _, _, .node h => .node (S.nd _ _ h)
  | _, _, .tree => by rw [← S.tr]; exact .tree
  | _, _, .list h => .list (S.ls _ _ h)
  | _, _, .dict => by rw [← S.dc]; exact .dict
  | _, _, .tup h1 h2 h3 => .tup (S.fr _ h1 h2).1 ((S.fr _ h1 h2).2.trans h2) (VRs.stepv0 S h3)
  | _, _, .fl h1 h2 h3 => .fl (S.fr _ h1 h2).1 ((S.fr _ h1 h2).2.trans h2) (VRs.stepv0 S h3)
theorem VRs.stepv0 (S : StV μ own news μ' own' news') : ∀ {xs : List V} {vs : List Value}, VRs μ own news xs vs → VRs μ' own' news' xs vs
  | _, _, .nil => .nil
  | _, _, .cons h r => .cons (VR.stepv0 S h) (VRs.stepv0 S r)
end
theorem VR.stepv {x : V} {v : Value} (h : VR μ own news x v) (S : StV μ own news μ' own' news') : VR μ' own' news' x v := VR.stepv0 S h
theorem VRs.stepv {xs : List V} {vs : List Value} (h : VRs μ own news xs vs) (S : StV μ own news μ' own' news') : VRs μ' own' news' xs vs := VRs.stepv0 S h
theorem VR.step {T : Tag → Bool} {x : V} {v : Value} (h : VR μ own news x v) (S : Stp T μ own news μ' own' news') (hT : T .fz = true := by rfl) : VR μ' own' news' x v := VR.stepv0 (S.toStV hT) h
theorem VRs.step {T : Tag → Bool} {xs : List V} {vs : List Value} (h : VRs μ own news xs vs) (S : Stp T μ own news μ' own' news') (hT : T .fz = true := by rfl) : VRs μ' own' news' xs vs := VRs.stepv0 (S.toStV hT) h
theorem VRs.length {xs : List V} {vs : List Value} : VRs μ own news xs vs → xs.length = vs.length := by
  intro h
  induction xs generalizing vs with
  | nil => cases h; rfl
  | cons x xs ih => cases h with | cons h r => simp [ih r]
theorem VRs.append {xs ys : List V} {vs us : List Value} (h : VRs μ own news xs vs) (g : VRs μ own news ys us) : VRs μ own news (xs ++ ys) (vs ++ us) := by
  induction xs generalizing vs with
  | nil => cases h; exact g
  | cons x xs ih => cases h with | cons h r => exact .cons h (ih r)
theorem VRs.get {xs : List V} {vs : List Value} (h : VRs μ own news xs vs) {k : Nat} {x : V} (hx : xs[k]? = some x) : ∃ v, vs[k]? = some v ∧ VR μ own news x v := by
  induction xs generalizing vs k with
  | nil => simp at hx
  | cons y ys ih =>
    cases h with
    | cons h r =>
      cases k with
      | zero => simp at hx; subst hx; exact ⟨_, by simp, h⟩
      | succ k => simp at hx; obtain ⟨v, h1, h2⟩ := ih r hx; exact ⟨v, by simpa using h1, h2⟩
theorem VRs.set {xs : List V} {vs : List Value} (h : VRs μ own news xs vs) {k : Nat} {x : V} {v : Value} (hx : VR μ own news x v) : VRs μ own news (xs.set k x) (vs.set k v) := by
  induction xs generalizing vs k with
  | nil => cases h; exact .nil
  | cons y ys ih =>
    cases h with
    | cons h r =>
      cases k with
      | zero => exact .cons hx r
      | succ k => exact .cons h (ih r)
theorem VRs.reverse {xs : List V} {vs : List Value} (h : VRs μ own news xs vs) : VRs μ own news xs.reverse vs.reverse := by
  induction xs generalizing vs with
  | nil => cases h; exact .nil
  | cons y ys ih =>
    cases h with
    | cons h r => simp only [List.reverse_cons]; exact (ih r).append (.cons h .nil)
theorem VRs.snoc {xs : List V} {x : V} {vs : List Value} (h : VRs μ own news (xs ++ [x]) vs) : ∃ us v, vs = us ++ [v] ∧ VRs μ own news xs us ∧ VR μ own news x v := by
  induction xs generalizing vs with
  | nil => cases h with | cons h r => cases r; exact ⟨[], _, rfl, .nil, h⟩
  | cons y ys ih =>
    cases h with
    | cons h r => obtain ⟨us, v, rfl, a, b⟩ := ih r; exact ⟨_ :: us, v, rfl, .cons h a, b⟩
end

/-- the entries of an instance's dict -/
noncomputable def Ents (P : Str → Option V) (μ : Mu) (own : Addr → Tag) (news : Led0) (es : List DictEntry) : Prop :=
  ∀ f x, P f = some x → ∃ v, getL f es = some (some v) ∧ VR μ own news x v

noncomputable def nP (st : St) (i : Nat) (a : Str) (x : V) : Prop := ∃ f : NF, a = f.name ∧ x = st.nf i f

structure NodeAt (st : St) (i : Nat) (μ : Mu) (own : Addr → Tag) (news : Led0) (es : List DictEntry) : Prop where
  len : es.length ≤ 20
  get : ∀ f : NF, ∃ v, getL f.name es = some (some v) ∧ VR μ own news (st.nf i f) v
structure TreeAt (st : St) (μ : Mu) (own : Addr → Tag) (news : Led0) (es : List DictEntry) : Prop where
  len : es.length ≤ 20
  get : ∀ f : TF, ∃ v, getL f.name es = some (some v) ∧ VR μ own news (st.tf f) v

inductive Prs (μ : Mu) (own : Addr → Tag) (news : Led0) : List (Int × V) → List (Int × Value) → Prop where
  | nil : Prs μ own news [] []
  | cons {k : Int} {x : V} {v : Value} {xs : List (Int × V)} {vs : List (Int × Value)} : VR μ own news x v → Prs μ own news xs vs → Prs μ own news ((k, x) :: xs) ((k, v) :: vs)

section
variable {μ : Mu} {own : Addr → Tag} {news : Led0}
mutual
theorem VR.anyLs (l : List Addr) : ∀ {x : V} {v : Value}, nl x = true → VR μ own news x v → VR { μ with ls := l } own news x v
  | _, _, _, .none => .none
  | _, _, _, .bool b => .bool b
  | _, _, _, .int i t => .int i t
  | _, _, _, .node h => .node h
  | _, _, _, .tree => .tree
  | _, _, h, .list _ => by cases h
  | _, _, _, .dict => .dict
  | _, _, h, .tup h1 h2 h3 => .tup h1 h2 (VRs.anyLs l (by simpa [nl] using h) h3)
  | _, _, h, .fl h1 h2 h3 => .fl h1 h2 (VRs.anyLs l (by simpa [nl] using h) h3)
theorem VRs.anyLs (l : List Addr) : ∀ {xs : List V} {vs : List Value}, nls xs = true → VRs μ own news xs vs → VRs { μ with ls := l } own news xs vs
  | _, _, _, .nil => .nil
  | _, _, h, .cons h1 h2 => by
    simp only [nls, Bool.and_eq_true] at h
    exact .cons (VR.anyLs l h.1 h1) (VRs.anyLs l h.2 h2)
end
end

structure Led (prog : Program) (w : World) (Cn Ct : Addr) (st : St) (μ : Mu) (own : Addr → Tag) (news : Led0) : Prop where
  nodup : (news.map (·.1)).Nodup
  nlen : μ.nd.length = st.nn
  nd : ∀ (i : Nat) (p : Addr × Addr), μ.nd[i]? = some p → own p.1 = .ni i ∧ own p.2 = .nx i ∧ (p.1, instObj Cn p.2) ∈ news ∧ ∃ es n, (p.2, dictOf es n) ∈ news ∧ NodeAt st i μ own news es
  ll : μ.ls.length = st.lists.length
  ls : ∀ (i : Nat) (a : Addr) (xs : List V), μ.ls[i]? = some a → st.lists[i]? = some xs → own a = .ls i ∧ ∃ vs n, (a, listOf vs.toArray n) ∈ news ∧ VRs μ own news xs vs
  tr : own μ.tr.1 = .ti ∧ own μ.tr.2 = .tx ∧ (μ.tr.1, instObj Ct μ.tr.2) ∈ news ∧ ∃ es n, (μ.tr.2, dictOf es n) ∈ news ∧ TreeAt st μ own news es
  dc : own μ.dc = .dc ∧ (μ.dc == sysModules) = false ∧ ∃ o kvs, (μ.dc, o) ∈ news ∧ o.IsDictOf (intKind prog w) kvs ∧ Prs μ own news st.places kvs
  fl : ∀ xs ∈ st.lists, nls xs = true
  pl : ∀ p ∈ st.places, nl p.2 = true
end
-- == M2
section
open PySem PySem.W PySem.Calls PyProof.Rows
set_option linter.unusedVariables false

structure Wc where
  prog : Program
  w : World
  K : Frag
  Cn : Addr
  Ct : Addr
  p : Program
  loose : List Str
  mg : Str → Option Value
  mb : Str → Option Value

structure Fc where
  A : Around
  A₀ : Around
  base : Heap
  h₀ : Heap
  outer : List Env
  cn : Str
  cs : Scope
  L : Addr
  a : Addr
  ccd : Value
  cl : List (Str × Addr)
noncomputable abbrev Fc.env (c : Fc) : Env := envX c.cn c.cs c.L c.a c.ccd c.cl

structure Fc.Ok (W : Wc) (c : Fc) (d : Nat) : Prop where
  B : Below c.A₀ c.base c.outer c.h₀
  hA : c.A.frames = some (c.env :: c.outer)
  hk : c.cs.kind = .function
  X : W.K.In c.h₀
  T : TopRead W.p W.loose W.mg W.mb c.h₀
  hh : c.A.handled = none
  dep : c.A.depth + d ≤ 400
  uni : c.A.units + 8 * d ≤ 1000
theorem Fc.Ok.le {W : Wc} {c : Fc} {d e : Nat} (h : c.Ok W d) (hd : e ≤ d) : c.Ok W e := ⟨h.B, h.hA, h.hk, h.X, h.T, h.hh, by have := h.dep; omega, by have := h.uni; omega⟩

structure ClsOK {ι : Type} (K : Frag) (C : Addr) (nm : ι → Str) : Prop where
  hd : hasDictIn K C = true
  sa : findIn K (.ref C) "__setattr__" = some (some (.builtin "object.__setattr__"))
  po : plainOver K C = true
  pg : ∀ f, plainGet K C (nm f) = true
  fi : ∀ f, findIn K (.ref C) (nm f) = some none
  tk : ∀ f, takerIn K C (nm f) = some none

structure Wc.Ok (W : Wc) : Prop where
  cn : ClsOK W.K W.Cn NF.name
  ct : ClsOK W.K W.Ct TF.name

structure Rel (W : Wc) (c : Fc) (st : St) (μ : Mu) (own : Addr → Tag) (news : Led0) (m : Str → Option Value) (s : Shared) : Prop where
  F : Fr c.h₀ c.L s.heap m
  N : News c.h₀ c.L s.heap news
  D : Led W.prog W.w W.Cn W.Ct st μ own news
theorem Rel.heap {W : Wc} {c : Fc} {st : St} {μ : Mu} {own : Addr → Tag} {news : Led0} {m : Str → Option Value} {s s' : Shared} (h : Rel W c st μ own news m s) (e : s'.heap = s.heap) : Rel W c st μ own news m s' :=
  ⟨e ▸ h.F, e ▸ h.N, h.D⟩

noncomputable abbrev Env0 := List (Str × V)
/-- what a cell holds; un: nothing yet -/
noncomputable def CellV (μ : Mu) (own : Addr → Tag) (news : Led0) (o : Obj) (v : V) : Prop := (v = .un ∧ o.data = .cell none) ∨ ∃ cv, o.data = .cell (some cv) ∧ VR μ own news v cv
theorem CellV.stepv {μ μ' : Mu} {own own' : Addr → Tag} {news news' : Led0} {o : Obj} {v : V} (h : CellV μ own news o v) (S : StV μ own news μ' own' news') : CellV μ' own' news' o v := by
  rcases h with h | ⟨cv, h1, h2⟩
  · exact .inl h
  · exact .inr ⟨cv, h1, h2.stepv S⟩
noncomputable def LocAt (c : Fc) (m : Str → Option Value) (μ : Mu) (own : Addr → Tag) (news : Led0) (x : Str) (v : V) : Prop :=
  (c.cs.names.lookup x = some .local → ∃ cv, m x = some cv ∧ VR μ own news v cv) ∧
  (c.cs.names.lookup x = some .cell → ∃ ca o, c.cl.lookup x = some ca ∧ (ca, o) ∈ news ∧ own ca = .ce ∧ CellV μ own news o v)
noncomputable def Loc (c : Fc) (ρ : Env0) (m : Str → Option Value) (μ : Mu) (own : Addr → Tag) (news : Led0) : Prop :=
  ∀ x v, ρ.lookup x = some v → LocAt c m μ own news x v
theorem Loc.step {c : Fc} {ρ : Env0} {m : Str → Option Value} {μ μ' : Mu} {own own' : Addr → Tag} {news news' : Led0} (h : Loc c ρ m μ own news) (S : Stp TA μ own news μ' own' news') : Loc c ρ m μ' own' news' := by
  intro x v e
  obtain ⟨a, b⟩ := h x v e
  refine ⟨fun k => ?_, fun k => ?_⟩
  · obtain ⟨cv, h1, h2⟩ := a k
    exact ⟨cv, h1, h2.step S⟩
  · obtain ⟨ca, o, h1, h2, h3, h4⟩ := b k
    obtain ⟨h6, h7⟩ := S.fr (ca, o) h2 (by show TA (own ca) = true; rw [h3]; rfl)
    exact ⟨ca, o, h1, h6, h7.trans h3, h4.stepv (S.toStV rfl)⟩

noncomputable def Same (s s' : Shared) : Prop := s' = { s with heap := s'.heap, toks := s'.toks }
theorem Same.refl (s : Shared) : Same s s := rfl
theorem Same.mk (s : Shared) (h : Heap) (t : Nat) : Same s { s with heap := h, toks := t } := rfl
theorem Same.trans {s s' s'' : Shared} (a : Same s s') (b : Same s' s'') : Same s s'' := by
  unfold Same at *
  rw [a] at b
  exact b

inductive Post {α β : Type} (W : Wc) (c : Fc) (T : Tag → Bool) (R : Mu → (Addr → Tag) → Led0 → β → α → Prop) (μ : Mu) (own : Addr → Tag) (news : Led0) (m : Str → Option Value) (s : Shared) (Q : β → St → Prop) (v : α) (s' : Shared) : Prop
  | mk : ∀ b st' μ' own' news', Stp T μ own news μ' own' news' → Rel W c st' μ' own' news' m s' → R μ' own' news' b v → Same s s' → Q b st' → Post W c T R μ own news m s Q v s'

/-- the tree t, from the abstract state st, comes to a value and a state that Q admits -/
noncomputable def Ev {α β : Type} (W : Wc) (c : Fc) (t : Sem α) (R : Mu → (Addr → Tag) → Led0 → β → α → Prop) (ρ : Env0) (st : St) (Q : β → St → Prop) : Prop :=
  ∀ s μ own news m, Rel W c st μ own news m s → Loc c ρ m μ own news →
    wpAny (model W.prog W.w) c.A t (Post W c TA R μ own news m s Q) (fun _ _ => False) s

noncomputable def EqR {α : Type} (_ : Mu) (_ : Addr → Tag) (_ : Led0) (b v : α) : Prop := b = v

noncomputable abbrev TriE (W : Wc) (c : Fc) (e : Expr) (ρ : Env0) (st : St) (Q : V → St → Prop) : Prop := Ev W c (eval e c.env) VR ρ st Q
noncomputable abbrev TriT (W : Wc) (c : Fc) (e : Expr) (ρ : Env0) (st : St) (Q : Bool → St → Prop) : Prop := Ev W c (isTrue e c.env (eval e c.env)) EqR ρ st Q
noncomputable abbrev TriEs (W : Wc) (c : Fc) (pos : Pos) (es : List Expr) (ρ : Env0) (st : St) (Q : List V → St → Prop) : Prop := Ev W c (spliced (backTo pos (starEach es c.env))) VRs ρ st Q

section
variable {W : Wc} {c : Fc} {ρ : Env0} {st : St}

/-- a value at hand, no step -/
theorem Post.now {α β : Type} {R : Mu → (Addr → Tag) → Led0 → β → α → Prop} {μ : Mu} {own : Addr → Tag} {news : Led0} {m : Str → Option Value} {s s' : Shared} {Q : β → St → Prop} {v : α} {b : β}
    (h : Rel W c st μ own news m s) (hr : R μ own news b v) (e : s'.heap = s.heap) (hs : Same s s') (hq : Q b st) : Post W c TA R μ own news m s Q v s' :=
  ⟨b, st, μ, own, news, Stp.refl .., h.heap e, hr, hs, hq⟩
theorem Post.after {α β : Type} {T : Tag → Bool} {R : Mu → (Addr → Tag) → Led0 → β → α → Prop} {μ μ' : Mu} {own own' : Addr → Tag} {news news' : Led0} {m : Str → Option Value} {s s₁ s' : Shared} {Q : β → St → Prop} {v : α}
    (S : Stp T μ own news μ' own' news') (hs : Same s s₁) (h : Post W c T R μ' own' news' m s₁ Q v s') : Post W c T R μ own news m s Q v s' := by
  obtain ⟨b, st', μ2, own2, news2, S2, R2, r2, e2, q2⟩ := h
  exact ⟨b, st', μ2, own2, news2, S.trans S2, R2, r2, hs.trans e2, q2⟩
theorem Post.mono {α β : Type} {T : Tag → Bool} {R : Mu → (Addr → Tag) → Led0 → β → α → Prop} {μ : Mu} {own : Addr → Tag} {news : Led0} {m : Str → Option Value} {s s' : Shared} {Q Q' : β → St → Prop} {v : α}
    (h : Post W c T R μ own news m s Q v s') (k : ∀ b st, Q b st → Q' b st) : Post W c T R μ own news m s Q' v s' := by
  obtain ⟨b, st', μ2, own2, news2, S2, R2, r2, e2, q2⟩ := h
  exact ⟨b, st', μ2, own2, news2, S2, R2, r2, e2, k _ _ q2⟩

theorem Ev.mono {α β : Type} {t : Sem α} {R : Mu → (Addr → Tag) → Led0 → β → α → Prop} {Q Q' : β → St → Prop} (h : Ev W c t R ρ st Q) (k : ∀ b st, Q b st → Q' b st) : Ev W c t R ρ st Q' :=
  fun s μ own news m hR hL => wpAny_mono (h s μ own news m hR hL) (fun _ _ p => p.mono k) fun _ _ x => x

/-- one tree, then another -/
theorem wpAny_then {α β : Type} {t : Sem α} {R : Mu → (Addr → Tag) → Led0 → β → α → Prop} {Q : β → St → Prop} {Z : α → Shared → Prop} {s : Shared} {μ : Mu} {own : Addr → Tag} {news : Led0} {m : Str → Option Value}
    (h : Ev W c t R ρ st Q) (hR : Rel W c st μ own news m s) (hL : Loc c ρ m μ own news)
    (k : ∀ v s' b st' μ' own' news', Stp TA μ own news μ' own' news' → Rel W c st' μ' own' news' m s' → Loc c ρ m μ' own' news' → R μ' own' news' b v → Same s s' → Q b st' → Z v s') :
    wpAny (model W.prog W.w) c.A t Z (fun _ _ => False) s :=
  wpAny_mono (h s μ own news m hR hL) (fun v s' p => by
    obtain ⟨b, st', μ', own', news', S, R', r, e, q⟩ := p
    exact k v s' b st' μ' own' news' S R' (hL.step S) r e q) fun _ _ x => x

theorem TriE_local {d : Nat} {x : Str} {p : Pos} {v : V} {Q : V → St → Prop} (ok : c.Ok W d) (hv : ρ.lookup x = some v) (hk : c.cs.names.lookup x = some .local) (hq : Q v st) (hd : (x == ("__debug__" : Str)) = false := by decide) :
    TriE W c (.Name x p) ρ st Q := by
  intro s μ own news m hR hL
  obtain ⟨cv, h1, h2⟩ := (hL x v hv).1 hk
  exact nameX_L hR.F h1 (Post.now hR h2 rfl rfl hq) ok.hk hk hd
theorem TriE_cell {d : Nat} {x : Str} {p : Pos} {v : V} {Q : V → St → Prop} (ok : c.Ok W d) (hv : ρ.lookup x = some v) (hk : c.cs.names.lookup x = some .cell) (hu : v ≠ .un) (hq : Q v st) (hd : (x == ("__debug__" : Str)) = false := by decide) :
    TriE W c (.Name x p) ρ st Q := by
  intro s μ own news m hR hL
  obtain ⟨ca, o, h1, h2, h3, h4⟩ := (hL x v hv).2 hk
  rcases h4 with ⟨e, _⟩ | ⟨cv, h4, h5⟩
  · exact absurd e hu
  exact nameX_C hR.N h1 h2 h4 (Post.now hR h5 rfl rfl hq) ok.hk hk hd
theorem TriE_int {i : Int} {k : Nat} {p : Pos} {Q : V → St → Prop} (hq : Q (.int i) st) : TriE W c (.Constant (.int i) k p) ρ st Q :=
  fun s μ own news m hR hL => wpAny_Constant_int (Post.now hR (.int i _) rfl rfl hq)
theorem TriE_none {k : Nat} {p : Pos} {Q : V → St → Prop} (hq : Q .none st) : TriE W c (.Constant .none k p) ρ st Q :=
  fun s μ own news m hR hL => Constant_none (Post.now hR .none rfl rfl hq)
theorem TriE_bool {b : Bool} {k : Nat} {p : Pos} {Q : V → St → Prop} (hq : Q (.bool b) st) : TriE W c (.Constant (.bool b) k p) ρ st Q :=
  fun s μ own news m hR hL => Constant_bool (Post.now hR (.bool b) rfl rfl hq)

/-- a value read off an object, by attribute -/
noncomputable def getV (st : St) (a : V) (x : Str) (Q : V → Prop) : Prop :=
  match a with
  | .node i => ∃ f : NF, x = f.name ∧ Q (st.nf i f)
  | .tree => ∃ f : TF, x = f.name ∧ Q (st.tf f)
  | _ => False

theorem handed_VR {μ : Mu} {own : Addr → Tag} {news : Led0} {x : V} {v : Value} (h : VR μ own news x v) : handedIn v = true := by
  cases h <;> rfl
theorem getAttr_V {d : Nat} {a : V} {va : Value} {x : Str} {expr : Bool} {Q : V → St → Prop} {s : Shared} {μ : Mu} {own : Addr → Tag} {news : Led0} {m : Str → Option Value} (wk : W.Ok) (ok : c.Ok W d)
    (hR : Rel W c st μ own news m s) (hv : VR μ own news a va) (h : getV st a x fun v => Q v st) : wpAny (model W.prog W.w) c.A (getAttr va x expr) (Post W c TA VR μ own news m s Q) (fun _ _ => False) s := by
  cases hv <;> try exact h.elim
  case node i p hp =>
    obtain ⟨f, rfl, hq⟩ := h
    obtain ⟨o1, o2, h1, es, n, h2, hn⟩ := hR.D.nd i p hp
    obtain ⟨v, hg, hv⟩ := hn.get f
    exact get_own hR.F ok.X (InstAt.of_news hR.N h1 h2) (wk.cn.pg f) wk.cn.hd (wk.cn.fi f) rfl hg (handed_VR hv) (Post.now hR hv rfl rfl hq)
  case tree =>
    obtain ⟨f, rfl, hq⟩ := h
    obtain ⟨o1, o2, h1, es, n, h2, hn⟩ := hR.D.tr
    obtain ⟨v, hg, hv⟩ := hn.get f
    exact get_own hR.F ok.X (InstAt.of_news hR.N h1 h2) (wk.ct.pg f) wk.ct.hd (wk.ct.fi f) rfl hg (handed_VR hv) (Post.now hR hv rfl rfl hq)

theorem TriE_attr {d : Nat} {e : Expr} {x : Str} {p : Pos} {Q : V → St → Prop} (wk : W.Ok) (ok : c.Ok W d)
    (he : eval (.Attribute e x p) c.env = (do
      let o ← eval e c.env
      standAt p.atName
      let r ← holding [o] (getAttr o x true)
      letTemporaryGo e o r
      pure r))
    (h : TriE W c e ρ st fun a st' => getV st' a x fun v => Q v st') : TriE W c (.Attribute e x p) ρ st Q := by
  intro s μ own news m hR hL
  refine Attribute_any_ (wpAny_then h hR hL fun v s' b st' μ' own' news' S R' L' r e q => ?_) he
  exact wpAny_mono (getAttr_V wk ok R' r q) (fun _ _ p => p.after S e) fun _ _ x => x
end
end
-- == M3
section
open PySem PySem.W PySem.Calls PyProof.Rows
set_option linter.unusedVariables false

/-- a node or None, as a pointer -/
noncomputable def ptr : V → Option (Option Nat)
  | .none => some .none
  | .node i => some (some i)
  | _ => .none
@[simp] theorem ptr_ov (o : Option Nat) : ptr (ov o) = some o := by cases o <;> rfl
@[simp] theorem ptr_none : ptr .none = some none := rfl
@[simp] theorem ptr_node (i : Nat) : ptr (.node i) = some (some i) := rfl

/-- a comparison of two values -/
noncomputable def cmpV (op : CmpOp) (a b : V) (Q : V → Prop) : Prop :=
  match op with
  | .Is => ∃ x y, ptr a = some x ∧ ptr b = some y ∧ Q (.bool (decide (x = y)))
  | .IsNot => ∃ x y, ptr a = some x ∧ ptr b = some y ∧ Q (.bool (!decide (x = y)))
  | .Eq => ∃ x y, a = .int x ∧ b = .int y ∧ Q (.bool (decide (x = y)))
  | .NotEq => ∃ x y, a = .int x ∧ b = .int y ∧ Q (.bool (!decide (x = y)))
  | .Lt => ∃ x y, a = .int x ∧ b = .int y ∧ Q (.bool (decide (x < y)))
  | .LtE => ∃ x y, a = .int x ∧ b = .int y ∧ Q (.bool (decide (x ≤ y)))
  | .Gt => ∃ x y, a = .int x ∧ b = .int y ∧ Q (.bool (decide (y < x)))
  | .GtE => ∃ x y, a = .int x ∧ b = .int y ∧ Q (.bool (decide (y ≤ x)))
  | _ => False

noncomputable def binV (op : Operator) (a b : V) (Q : V → Prop) : Prop :=
  match op with
  | .Add => ∃ x y, a = .int x ∧ b = .int y ∧ Q (.int (x + y))
  | .Sub => ∃ x y, a = .int x ∧ b = .int y ∧ Q (.int (x - y))
  | .Mult => ∃ x y, a = .int x ∧ b = .int y ∧ (0 ≤ x ∧ x < 2 ^ 63) ∧ Q (.int (x * y))
  | .Mod => ∃ x y, a = .int x ∧ b = .int y ∧ y ≠ 0 ∧ Q (.int (x.fmod y))
  | _ => False

noncomputable def truthV (a : V) (Q : Bool → Prop) : Prop := ∃ b, a = .bool b ∧ Q b

section
variable {W : Wc} {c : Fc} {ρ : Env0} {st : St}

theorem VR.ofPtr {μ : Mu} {own : Addr → Tag} {news : Led0} {a : V} {va : Value} {x : Option Nat} (h : VR μ own news a va) (e : ptr a = some x) :
    (x = Option.none ∧ va = .none) ∨ ∃ i p, x = some i ∧ μ.nd[i]? = some p ∧ va = .ref p.1 := by
  cases h <;> simp [ptr] at e
  · exact .inl ⟨e.symm, rfl⟩
  · exact .inr ⟨_, _, e.symm, by assumption, rfl⟩

theorem isSame_V {a b : V} {va vb : Value} {x y : Option Nat} {s : Shared} {μ : Mu} {own : Addr → Tag} {news : Led0} {m : Str → Option Value} {Q : Bool → Shared → Prop} {E : Value → Shared → Prop}
    (hR : Rel W c st μ own news m s) (ha : VR μ own news a va) (hb : VR μ own news b vb) (hx : ptr a = some x) (hy : ptr b = some y) (h : Q (decide (x = y)) s) :
    wpAny (model W.prog W.w) c.A (isSame va vb) Q E s := by
  rcases ha.ofPtr hx with ⟨rfl, rfl⟩ | ⟨i, p, rfl, hp, rfl⟩ <;> rcases hb.ofPtr hy with ⟨rfl, rfl⟩ | ⟨j, q, rfl, hq, rfl⟩
  · exact wpAny_isSame_plain rfl (by simpa using h)
  · exact wpAny_isSame_plain rfl (by rw [show (Value.none == Value.ref q.1) = false from rfl]; simpa using h)
  · exact wpAny_isSame_plain rfl (by rw [show (Value.ref p.1 == Value.none) = false from rfl]; simpa using h)
  · obtain ⟨o1, o2, h1, _⟩ := hR.D.nd i p hp
    obtain ⟨o3, o4, h3, _⟩ := hR.D.nd j q hq
    by_cases e : i = j
    · subst e
      have : p = q := Option.some.inj (hp.symm.trans hq)
      subst this
      exact wpAny_isSame_ref_self (by simpa using h)
    · have hne : p.1 ≠ q.1 := fun z => e (by rw [z, o3] at o1; cases o1; rfl)
      refine wpAny_isSame_ref_other hne (hR.N _ h1).1 (hR.N _ h3).1 (fun z => by cases z) ?_
      have : decide ((some i : Option Nat) = some j) = false := by simpa using e
      rw [this] at h; exact h

theorem cmp_V {op : CmpOp} {a b : V} {va vb : Value} {s : Shared} {μ : Mu} {own : Addr → Tag} {news : Led0} {m : Str → Option Value} {Q : V → St → Prop}
    (hR : Rel W c st μ own news m s) (ha : VR μ own news a va) (hb : VR μ own news b vb) (h : cmpV op a b fun v => Q v st) :
    wpAny (model W.prog W.w) c.A (compareOp op va vb) (Post W c TA VR μ own news m s Q) (fun _ _ => False) s := by
  unfold cmpV at h
  split at h <;> try exact h.elim
  · obtain ⟨x, y, hx, hy, hq⟩ := h
    show wpAny _ c.A (do return Value.bool (← isSame va vb)) _ _ s
    exact wpAny_bind (isSame_V hR ha hb hx hy (wpAny_pure (Post.now hR (.bool _) rfl rfl hq)))
  · obtain ⟨x, y, hx, hy, hq⟩ := h
    show wpAny _ c.A (do return Value.bool (!(← isSame va vb))) _ _ s
    exact wpAny_bind (isSame_V hR ha hb hx hy (wpAny_pure (Post.now hR (.bool _) rfl rfl hq)))
  all_goals
    obtain ⟨x, y, rfl, rfl, hq⟩ := h
    cases ha; cases hb
  · exact eq_int (Post.now hR (.bool _) rfl rfl hq)
  · exact ne_int (Post.now hR (.bool _) rfl rfl hq)
  · exact lt_int (Post.now hR (.bool _) rfl rfl hq)
  · exact le_int (Post.now hR (.bool _) rfl rfl hq)
  · exact gt_int (Post.now hR (.bool _) rfl rfl hq)
  · exact ge_int (Post.now hR (.bool _) rfl rfl hq)

theorem bin_V {op : Operator} {a b : V} {va vb : Value} {s : Shared} {μ : Mu} {own : Addr → Tag} {news : Led0} {m : Str → Option Value} {Q : V → St → Prop}
    (hR : Rel W c st μ own news m s) (ha : VR μ own news a va) (hb : VR μ own news b vb) (h : binV op a b fun v => Q v st) :
    wpAny (model W.prog W.w) c.A (binaryOp op va vb) (Post W c TA VR μ own news m s Q) (fun _ _ => False) s := by
  unfold binV at h
  split at h <;> try exact h.elim
  · obtain ⟨x, y, rfl, rfl, hq⟩ := h
    cases ha; cases hb
    exact add_int (Post.now hR (.int _ _) rfl rfl hq)
  · obtain ⟨x, y, rfl, rfl, hq⟩ := h
    cases ha; cases hb
    exact sub_int (Post.now hR (.int _ _) rfl rfl hq)
  · obtain ⟨x, y, rfl, rfl, ⟨h0, h1⟩, hq⟩ := h
    cases ha; cases hb
    exact mul_int (Post.now hR (.int _ _) rfl rfl hq) (IntMulOk.of_left (PySem.intBits_le_64 (by omega) (by omega)))
  · obtain ⟨x, y, rfl, rfl, h0, hq⟩ := h
    cases ha; cases hb
    exact mod_int' h0 (Post.now hR (.int _ _) rfl rfl hq)

theorem truth_V {a : V} {va : Value} {s : Shared} {μ : Mu} {own : Addr → Tag} {news : Led0} {m : Str → Option Value} {Q : Bool → St → Prop}
    (hR : Rel W c st μ own news m s) (ha : VR μ own news a va) (h : truthV a fun v => Q v st) :
    wpAny (model W.prog W.w) c.A (truthy va) (Post W c TA EqR μ own news m s Q) (fun _ _ => False) s := by
  obtain ⟨b, rfl, hq⟩ := h
  cases ha
  exact wpAny_truthy_bool (Post.now hR (rfl : EqR μ own news _ _) rfl rfl hq)

/-- two values in a row -/
theorem two_V {l r : Expr} {Y : Value → Value → Shared → Prop} {s : Shared} {μ : Mu} {own : Addr → Tag} {news : Led0} {m : Str → Option Value} {Q : V → V → St → Prop}
    (h : TriE W c l ρ st fun a st' => TriE W c r ρ st' fun b st'' => Q a b st'') (hR : Rel W c st μ own news m s) (hL : Loc c ρ m μ own news)
    (k : ∀ va vb s' a b st' μ' own' news', Stp TA μ own news μ' own' news' → Rel W c st' μ' own' news' m s' → Loc c ρ m μ' own' news' → VR μ' own' news' a va → VR μ' own' news' b vb → Same s s' → Q a b st' → Y va vb s') :
    wpAny (model W.prog W.w) c.A (eval l c.env) (fun va s₁ => wpAny (model W.prog W.w) c.A (eval r c.env) (fun vb s₂ => Y va vb s₂) (fun _ _ => False) s₁) (fun _ _ => False) s := by
  refine wpAny_then h hR hL fun va s' a st' μ' own' news' S R' L' ra e q => ?_
  refine wpAny_then q R' L' fun vb s'' b st'' μ'' own'' news'' S' R'' L'' rb e' q' => ?_
  exact k va vb s'' a b st'' μ'' own'' news'' (S.trans S') R'' L'' (ra.step S') rb (e.trans e') q'

theorem TriE_cmp {l r : Expr} {op : CmpOp} {p : Pos} {Q : V → St → Prop} (hm : behindInMarks op r = false)
    (h : TriE W c l ρ st fun a st' => TriE W c r ρ st' fun b st'' => cmpV op a b fun v => Q v st'') : TriE W c (.Compare l [op] [r] p) ρ st Q := by
  intro s μ own news m hR hL
  refine wpAny_Compare1 (two_V h hR hL fun va vb s' a b st' μ' own' news' S R' L' ra rb e q => ?_) hm
  exact wpAny_mono (cmp_V R' ra rb q) (fun _ _ p => p.after S e) fun _ _ x => x
theorem TriT_cmp {l r : Expr} {op : CmpOp} {p : Pos} {Q : Bool → St → Prop} (hm : behindInMarks op r = false)
    (h : TriE W c l ρ st fun a st' => TriE W c r ρ st' fun b st'' => cmpV op a b fun v => truthV v fun t => Q t st'') : TriT W c (.Compare l [op] [r] p) ρ st Q := by
  intro s μ own news m hR hL
  refine wpAny_isTrue_Compare1 (two_V h hR hL fun va vb s' a b st' μ' own' news' S R' L' ra rb e q => ?_) hm
  refine wpAny_mono (cmp_V (Q := fun v st'' => truthV v fun t => Q t st'') R' ra rb q) (fun vc s3 p => ?_) fun _ _ x => x
  obtain ⟨b3, st3, μ3, own3, news3, S3, R3, r3, e3, q3⟩ := p
  exact wpAny_mono (truth_V R3 r3 q3) (fun _ _ p => p.after (S.trans S3) (e.trans e3)) fun _ _ x => x
theorem TriE_bin {l r : Expr} {op : Operator} {p : Pos} {Q : V → St → Prop}
    (h : TriE W c l ρ st fun a st' => TriE W c r ρ st' fun b st'' => binV op a b fun v => Q v st'') : TriE W c (.BinOp l op r p) ρ st Q := by
  intro s μ own news m hR hL
  refine wpAny_BinOp (two_V h hR hL fun va vb s' a b st' μ' own' news' S R' L' ra rb e q => ?_)
  exact wpAny_mono (bin_V R' ra rb q) (fun _ _ p => p.after S e) fun _ _ x => x

/-- a value, then its truth -/
theorem val_truth {e : Expr} {s : Shared} {μ : Mu} {own : Addr → Tag} {news : Led0} {m : Str → Option Value} {Q : Bool → St → Prop}
    (h : TriE W c e ρ st fun a st' => truthV a fun t => Q t st') (hR : Rel W c st μ own news m s) (hL : Loc c ρ m μ own news) :
    wpAny (model W.prog W.w) c.A (eval e c.env) (fun v s₁ => wpAny (model W.prog W.w) c.A (truthy v) (Post W c TA EqR μ own news m s Q) (fun _ _ => False) s₁) (fun _ _ => False) s := by
  refine wpAny_then h hR hL fun va s' a st' μ' own' news' S R' L' ra e q => ?_
  exact wpAny_mono (truth_V R' ra q) (fun _ _ p => p.after S e) fun _ _ x => x
theorem TriT_plain {e : Expr} {Q : Bool → St → Prop} (he : isTrue e c.env (eval e c.env) = (do let v ← eval e c.env; standAt e.pos; holding [v] (truthy v)))
    (h : TriE W c e ρ st fun a st' => truthV a fun t => Q t st') : TriT W c e ρ st Q :=
  fun s μ own news m hR hL => isTrue_plain (val_truth h hR hL) he
theorem TriT_name {x : Str} {p : Pos} {Q : Bool → St → Prop} (h : TriE W c (.Name x p) ρ st fun a st' => truthV a fun t => Q t st') : TriT W c (.Name x p) ρ st Q := TriT_plain rfl h
theorem TriT_attr {e : Expr} {x : Str} {p : Pos} {Q : Bool → St → Prop} (h : TriE W c (.Attribute e x p) ρ st fun a st' => truthV a fun t => Q t st') : TriT W c (.Attribute e x p) ρ st Q := TriT_plain rfl h
theorem TriT_call {e : Expr} {as : List Expr} {ks : List Keyword} {p : Pos} {Q : Bool → St → Prop} (h : TriE W c (.Call e as ks p) ρ st fun a st' => truthV a fun t => Q t st') : TriT W c (.Call e as ks p) ρ st Q := TriT_plain rfl h
theorem TriT_not {e : Expr} {p : Pos} {Q : Bool → St → Prop} (h : TriT W c e ρ st fun t st' => Q (!t) st') : TriT W c (.UnaryOp .Not e p) ρ st Q := by
  intro s μ own news m hR hL
  refine isTrue_not (wpAny_mono (h s μ own news m hR hL) (fun b s' p => ?_) fun _ _ x => x)
  obtain ⟨b3, st3, μ3, own3, news3, S3, R3, r3, e3, q3⟩ := p
  cases r3
  exact ⟨!b, st3, μ3, own3, news3, S3, R3, rfl, e3, q3⟩
theorem Ev.ifs {α β : Type} {t1 t2 : Sem α} {e : Expr} {R : Mu → (Addr → Tag) → Led0 → β → α → Prop} {Q : β → St → Prop}
    {s : Shared} {μ : Mu} {own : Addr → Tag} {news : Led0} {m : Str → Option Value}
    (h : TriT W c e ρ st fun t st' => if t = true then Ev W c t1 R ρ st' Q else Ev W c t2 R ρ st' Q) (hR : Rel W c st μ own news m s) (hL : Loc c ρ m μ own news) :
    wpAny (model W.prog W.w) c.A (isTrue e c.env (eval e c.env)) (fun b s₂ => if b = true then wpAny (model W.prog W.w) c.A t1 (Post W c TA R μ own news m s Q) (fun _ _ => False) s₂ else wpAny (model W.prog W.w) c.A t2 (Post W c TA R μ own news m s Q) (fun _ _ => False) s₂) (fun _ _ => False) s := by
  refine wpAny_then h hR hL fun b s' t st' μ' own' news' S R' L' r e q => ?_
  cases r
  cases b
  · simp only [Bool.false_eq_true, if_false] at q ⊢
    exact wpAny_mono (q s' μ' own' news' m R' L') (fun _ _ p => p.after S e) fun _ _ x => x
  · simp only [if_true] at q ⊢
    exact wpAny_mono (q s' μ' own' news' m R' L') (fun _ _ p => p.after S e) fun _ _ x => x
theorem TriE_ifexp {t b o : Expr} {p : Pos} {Q : V → St → Prop} (h : TriT W c t ρ st fun z st' => if z = true then TriE W c b ρ st' Q else TriE W c o ρ st' Q) : TriE W c (.IfExp t b o p) ρ st Q :=
  fun s μ own news m hR hL => IfExp_ (Ev.ifs h hR hL)
theorem Ev.pure {α β : Type} {a : α} {b : β} {R : Mu → (Addr → Tag) → Led0 → β → α → Prop} {Q : β → St → Prop} (hr : ∀ μ own news, R μ own news b a) (hq : Q b st) : Ev W c (pure a) R ρ st Q :=
  fun s μ own news m hR hL => wpAny_pure (Post.now hR (hr _ _ _) rfl rfl hq)
theorem TriT_and1 {e : Expr} {p : Pos} {Q : Bool → St → Prop} (h : TriT W c e ρ st Q) : TriT W c (.BoolOp .And [e] p) ρ st Q := by
  intro s μ own news m hR hL
  refine isTrue_and (wpAny_mono (h s μ own news m hR hL) (fun b s' p => ?_) fun _ _ x => x)
  obtain ⟨b3, st3, μ3, own3, news3, S3, R3, r3, e3, q3⟩ := p
  cases r3
  cases b
  · exact ⟨false, st3, μ3, own3, news3, S3, R3, rfl, e3, q3⟩
  · exact isTrue_and_nil ⟨true, st3, μ3, own3, news3, S3, R3, rfl, e3, q3⟩
theorem TriT_and {e e2 : Expr} {es : List Expr} {p : Pos} {Q : Bool → St → Prop} (h : TriT W c e ρ st fun t st' => if t = true then TriT W c (.BoolOp .And (e2 :: es) p) ρ st' Q else Q false st') :
    TriT W c (.BoolOp .And (e :: e2 :: es) p) ρ st Q := by
  intro s μ own news m hR hL
  refine isTrue_and (wpAny_then h hR hL fun b s' t st' μ' own' news' S R' L' r e q => ?_)
  cases r
  cases b
  · exact ⟨false, st', μ', own', news', S, R', rfl, e, q⟩
  · simp only [if_true] at q ⊢
    exact wpAny_mono (q s' μ' own' news' m R' L') (fun _ _ p => p.after S e) fun _ _ x => x
theorem TriT_or1 {e : Expr} {p : Pos} {Q : Bool → St → Prop} (h : TriT W c e ρ st Q) : TriT W c (.BoolOp .Or [e] p) ρ st Q := by
  intro s μ own news m hR hL
  refine isTrue_or (wpAny_mono (h s μ own news m hR hL) (fun b s' p => ?_) fun _ _ x => x)
  obtain ⟨b3, st3, μ3, own3, news3, S3, R3, r3, e3, q3⟩ := p
  cases r3
  cases b
  · exact isTrue_or_nil ⟨false, st3, μ3, own3, news3, S3, R3, rfl, e3, q3⟩
  · exact ⟨true, st3, μ3, own3, news3, S3, R3, rfl, e3, q3⟩
theorem TriT_or {e e2 : Expr} {es : List Expr} {p : Pos} {Q : Bool → St → Prop} (h : TriT W c e ρ st fun t st' => if t = true then Q true st' else TriT W c (.BoolOp .Or (e2 :: es) p) ρ st' Q) :
    TriT W c (.BoolOp .Or (e :: e2 :: es) p) ρ st Q := by
  intro s μ own news m hR hL
  refine isTrue_or (wpAny_then h hR hL fun b s' t st' μ' own' news' S R' L' r e q => ?_)
  cases r
  cases b
  · simp only [Bool.false_eq_true, if_false] at q ⊢
    exact wpAny_mono (q s' μ' own' news' m R' L') (fun _ _ p => p.after S e) fun _ _ x => x
  · exact ⟨true, st', μ', own', news', S, R', rfl, e, q⟩
theorem TriE_bool1 {e : Expr} {op : BoolOp} {p : Pos} {Q : V → St → Prop} (h : TriE W c e ρ st Q) : TriE W c (.BoolOp op [e] p) ρ st Q :=
  fun s μ own news m hR hL => BoolOp_one (h s μ own news m hR hL)
theorem TriE_and {e e2 : Expr} {es : List Expr} {p : Pos} {Q : V → St → Prop} (h : TriE W c e ρ st fun a st' => truthV a fun t => if t = true then TriE W c (.BoolOp .And (e2 :: es) p) ρ st' Q else Q a st') :
    TriE W c (.BoolOp .And (e :: e2 :: es) p) ρ st Q := by
  intro s μ own news m hR hL
  refine BoolOp_and (wpAny_then h hR hL fun va s' a st' μ' own' news' S R' L' ra e q => ?_)
  refine wpAny_mono (truth_V (Q := fun t st'' => if t = true then TriE W c (.BoolOp .And (e2 :: es) p) ρ st'' Q else Q a st'') R' ra q) (fun b s3 p => ?_) fun _ _ x => x
  obtain ⟨b3, st3, μ3, own3, news3, S3, R3, r3, e3, q3⟩ := p
  cases r3
  cases b
  · exact ⟨a, st3, μ3, own3, news3, S.trans S3, R3, ra.step S3, e.trans e3, q3⟩
  · simp only [if_true] at q3 ⊢
    exact wpAny_mono (q3 s3 μ3 own3 news3 m R3 (L'.step S3)) (fun _ _ p => p.after (S.trans S3) (e.trans e3)) fun _ _ x => x
theorem TriE_or {e e2 : Expr} {es : List Expr} {p : Pos} {Q : V → St → Prop} (h : TriE W c e ρ st fun a st' => truthV a fun t => if t = true then Q a st' else TriE W c (.BoolOp .Or (e2 :: es) p) ρ st' Q) :
    TriE W c (.BoolOp .Or (e :: e2 :: es) p) ρ st Q := by
  intro s μ own news m hR hL
  refine BoolOp_or (wpAny_then h hR hL fun va s' a st' μ' own' news' S R' L' ra e q => ?_)
  refine wpAny_mono (truth_V (Q := fun t st'' => if t = true then Q a st'' else TriE W c (.BoolOp .Or (e2 :: es) p) ρ st'' Q) R' ra q) (fun b s3 p => ?_) fun _ _ x => x
  obtain ⟨b3, st3, μ3, own3, news3, S3, R3, r3, e3, q3⟩ := p
  cases r3
  cases b
  · simp only [Bool.false_eq_true, if_false] at q3 ⊢
    exact wpAny_mono (q3 s3 μ3 own3 news3 m R3 (L'.step S3)) (fun _ _ p => p.after (S.trans S3) (e.trans e3)) fun _ _ x => x
  · exact ⟨a, st3, μ3, own3, news3, S.trans S3, R3, ra.step S3, e.trans e3, q3⟩
theorem TriE_not {e : Expr} {p : Pos} {Q : V → St → Prop} (h : TriE W c e ρ st fun a st' => truthV a fun t => Q (.bool (!t)) st') : TriE W c (.UnaryOp .Not e p) ρ st Q := by
  intro s μ own news m hR hL
  refine UnaryOp_ (wpAny_then h hR hL fun va s' a st' μ' own' news' S R' L' ra e q => ?_)
  refine not_of (wpAny_mono (truth_V (Q := fun t st'' => Q (.bool (!t)) st'') R' ra q) (fun b s3 p => ?_) fun _ _ x => x)
  obtain ⟨b3, st3, μ3, own3, news3, S3, R3, r3, e3, q3⟩ := p
  cases r3
  exact ⟨.bool (!b), st3, μ3, own3, news3, S.trans S3, R3, .bool _, e.trans e3, q3⟩

/-- arguments, items of a display -/
theorem TriEs_nil {pos : Pos} {Q : List V → St → Prop} (h : Q [] st) : TriEs W c pos [] ρ st Q := Ev.pure (a := []) (fun _ _ _ => VRs.nil) h
theorem TriEs_cons {pos : Pos} {e : Expr} {es : List Expr} {Q : List V → St → Prop}
    (he : starEach (e :: es) c.env = (false, eval e c.env) :: starEach es c.env)
    (h : TriE W c e ρ st fun a st' => TriEs W c pos es ρ st' fun as st'' => Q (a :: as) st'') : TriEs W c pos (e :: es) ρ st Q := by
  intro s μ own news m hR hL
  rw [he]
  show wpAny _ c.A (do
    let v ← eval e c.env
    let here ← pure [v]
    return here ++ (← holding here (spliced (backTo pos (starEach es c.env))))) _ _ s
  refine wpAny_bind (wpAny_then h hR hL fun va s' a st' μ' own' news' S R' L' ra e q => ?_)
  refine wpAny_bind (wpAny_pure (wpAny_bind (wpAny_holding ?_)))
  refine wpAny_then q R' L' fun vs s'' as st'' μ'' own'' news'' S' R'' L'' rs e' q' => ?_
  exact wpAny_pure ⟨a :: as, st'', μ'', own'', news'', S.trans S', R'', .cons (ra.step S') rs, e.trans e', q'⟩
end
end
-- == M4
section
open PySem PySem.W PySem.Calls PyProof.Rows
set_option linter.unusedVariables false

theorem upd_of_mem {d : Addr} {o o' : Obj} : ∀ {news : Led0}, (d, o) ∈ news → (news.map (·.1)).Nodup →
    ∃ news', Upd d o o' news news' ∧ (∀ p ∈ news, p.1 ≠ d → p ∈ news') ∧ (d, o') ∈ news' ∧ news'.map (·.1) = news.map (·.1)
  | p :: r, hm, hn => by
    rw [List.map_cons, List.nodup_cons] at hn
    rcases List.mem_cons.mp hm with rfl | hm
    · refine ⟨(d, o') :: r, .head (fun q hq e => hn.1 (e ▸ List.mem_map_of_mem (f := (·.1)) hq)), fun q hq hne => ?_, .head _, rfl⟩
      rcases List.mem_cons.mp hq with rfl | hq
      · exact absurd rfl hne
      · exact .tail _ hq
    · obtain ⟨r', U, h1, h2, h3⟩ := upd_of_mem hm hn.2
      have hne : p.1 ≠ d := fun e => hn.1 (e ▸ List.mem_map_of_mem (f := (·.1)) hm)
      refine ⟨p :: r', .tail hne U, fun q hq hq' => ?_, .tail _ h2, by simp [h3]⟩
      rcases List.mem_cons.mp hq with rfl | hq
      · exact .head _
      · exact .tail _ (h1 q hq hq')

theorem isStr_inj {v : Value} {a b : Str} (h : v.isStr a = true) (g : v.isStr b = true) : a = b := by
  unfold Value.isStr at h g
  split at h
  · simp only [beq_iff_eq] at h g
    exact h.symm.trans g
  · cases h
theorem getL_iff {name : Str} {es : List DictEntry} {v : Value} : getL name es = some (some v) ↔ (es.find? (fun x => x.key.isStr name)).map (·.val) = some v := by
  unfold getL
  cases h : es.find? (fun x => x.key.isStr name) with
  | some e => simp
  | none => simp
theorem find_putL_self {name : Str} {hsh : Int} {key v v0 : Value} : ∀ {es : List DictEntry}, (es.find? (fun x => x.key.isStr name)).map (·.val) = some v0 → ((putL name hsh key v es).find? (fun x => x.key.isStr name)).map (·.val) = some v
  | [], h => by simp at h
  | e :: r, h => by
    unfold putL
    by_cases hk : e.key.isStr name = true
    · simp [hk]
    · simp only [hk, Bool.false_eq_true, if_false, List.find?_cons] at h ⊢
      exact find_putL_self h
theorem find_putL_ne {name other : Str} {hsh : Int} {key v v0 u : Value} (hne : other ≠ name) : ∀ {es : List DictEntry}, (es.find? (fun x => x.key.isStr name)).map (·.val) = some v0 → (es.find? (fun x => x.key.isStr other)).map (·.val) = some u →
    ((putL name hsh key v es).find? (fun x => x.key.isStr other)).map (·.val) = some u
  | [], h, _ => by simp at h
  | e :: r, h, g => by
    unfold putL
    by_cases hk : e.key.isStr name = true
    · have ho : e.key.isStr other = false := by
        cases z : e.key.isStr other with
        | false => rfl
        | true => exact absurd (isStr_inj z hk) hne
      simp only [hk, if_true, List.find?_cons, ho] at g ⊢
      exact g
    · simp only [hk, Bool.false_eq_true, if_false, List.find?_cons] at h g ⊢
      cases ho : e.key.isStr other with
      | true => rw [ho] at g; exact g
      | false => rw [ho] at g; exact find_putL_ne hne h g
theorem find_putL_length {name : Str} {hsh : Int} {key v v0 : Value} : ∀ {es : List DictEntry}, (es.find? (fun x => x.key.isStr name)).map (·.val) = some v0 → (putL name hsh key v es).length = es.length
  | [], h => by simp at h
  | e :: r, h => by
    unfold putL
    by_cases hk : e.key.isStr name = true
    · simp [hk]
    · simp only [hk, Bool.false_eq_true, if_false, List.find?_cons, List.length_cons] at h ⊢
      rw [find_putL_length h]
theorem getL_putL_self {name : Str} {hsh : Int} {key v v0 : Value} {es : List DictEntry} (h : getL name es = some (some v0)) : getL name (putL name hsh key v es) = some (some v) := getL_iff.mpr (find_putL_self (getL_iff.mp h))
theorem getL_putL_ne {name other : Str} {hsh : Int} {key v v0 u : Value} {es : List DictEntry} (hne : other ≠ name) (h : getL name es = some (some v0)) (g : getL other es = some (some u)) : getL other (putL name hsh key v es) = some (some u) :=
  getL_iff.mpr (find_putL_ne hne (getL_iff.mp h) (getL_iff.mp g))
theorem putL_length {name : Str} {hsh : Int} {key v v0 : Value} {es : List DictEntry} (h : getL name es = some (some v0)) : (putL name hsh key v es).length = es.length := find_putL_length (getL_iff.mp h)

noncomputable def upd {α : Type} (f : Nat → α) (i : Nat) (x : α) : Nat → α := fun j => if j = i then x else f j

noncomputable def asI : V → Option Int
  | .int k => some k
  | _ => none
noncomputable def asB : V → Option Bool
  | .bool k => some k
  | _ => none
theorem asI_eq : ∀ {v : V} {k : Int}, asI v = some k → V.int k = v
  | .int _, _, h => congrArg V.int (Option.some.inj h).symm
theorem asB_eq : ∀ {v : V} {k : Bool}, asB v = some k → V.bool k = v
  | .bool _, _, h => congrArg V.bool (Option.some.inj h).symm
noncomputable def St.setN (st : St) (i : Nat) (f : NF) (v : V) : Option St :=
  match f with
  | .num => (asI v).map fun k => { st with num := upd st.num i k }
  | .bg => (asI v).map fun k => { st with bg := upd st.bg i k }
  | .en => (asI v).map fun k => { st with en := upd st.en i k }
  | .lim => (asI v).map fun k => { st with lim := upd st.lim i k }
  | .off => (asI v).map fun k => { st with off := upd st.off i k }
  | .red => (asB v).map fun b => { st with red := upd st.red i b }
  | .lf => (ptr v).map fun o => { st with lf := upd st.lf i o }
  | .rt => (ptr v).map fun o => { st with rt := upd st.rt i o }
  | .pa => (ptr v).map fun o => { st with pa := upd st.pa i o }
noncomputable def St.setT (st : St) (f : TF) (v : V) : Option St :=
  match f, v with
  | .root, v => (ptr v).map fun o => { st with root := o }
  | .cnt, .int k => some { st with cnt := k }
  | _, _ => none
theorem ov_ptr {v : V} {o : Option Nat} (h : ptr v = some o) : v = ov o := by
  cases v <;> simp [ptr] at h <;> subst h <;> rfl

structure SameN (st st' : St) : Prop where
  nn : st'.nn = st.nn
  lists : st'.lists = st.lists
  places : st'.places = st.places

theorem St.setN_spec {st st' : St} {i : Nat} {f : NF} {v : V} (h : st.setN i f v = some st') :
    st'.nf i f = v ∧ (∀ j g, (j ≠ i ∨ g ≠ f) → st'.nf j g = st.nf j g) ∧ (∀ g, st'.tf g = st.tf g) ∧ SameN st st' := by
  unfold St.setN at h
  cases f <;> (
    obtain ⟨o, ho, rfl⟩ := Option.map_eq_some_iff.mp h
    refine ⟨?_, fun j g hj => ?_, fun g => rfl, ⟨rfl, rfl, rfl⟩⟩
    · first | exact (congrArg V.int (if_pos rfl)).trans (asI_eq ho) | exact (congrArg V.bool (if_pos rfl)).trans (asB_eq ho) | exact (congrArg ov (if_pos rfl)).trans (ov_ptr ho).symm
    · cases g <;> first | rfl | exact congrArg V.int (if_neg (hj.resolve_right fun q => q rfl)) | exact congrArg V.bool (if_neg (hj.resolve_right fun q => q rfl)) | exact congrArg ov (if_neg (hj.resolve_right fun q => q rfl)))
theorem St.setT_spec {st st' : St} {f : TF} {v : V} (h : st.setT f v = some st') :
    st'.tf f = v ∧ (∀ g, g ≠ f → st'.tf g = st.tf g) ∧ (∀ j g, st'.nf j g = st.nf j g) ∧ SameN st st' := by
  unfold St.setT at h
  split at h <;> first
    | (cases h; done)
    | (obtain ⟨o, ho, rfl⟩ := Option.map_eq_some_iff.mp h
       exact ⟨by simp [St.tf, ov_ptr ho], fun g hg => (by cases g <;> first | rfl | exact absurd rfl hg), fun j g => (by cases g <;> rfl), ⟨rfl, rfl, rfl⟩⟩)
    | (cases h
       exact ⟨by simp [St.tf], fun g hg => (by cases g <;> first | rfl | exact absurd rfl hg), fun j g => (by cases g <;> rfl), ⟨rfl, rfl, rfl⟩⟩)

/-- a value stored by attribute -/
noncomputable def setV (st : St) (a : V) (x : Str) (v : V) (Q : St → Prop) : Prop :=
  match a with
  | .node i => ∃ (f : NF) (st' : St), x = f.name ∧ st.setN i f v = some st' ∧ Q st'
  | .tree => ∃ (f : TF) (st' : St), x = f.name ∧ st.setT f v = some st' ∧ Q st'
  | _ => False

theorem NF.name_inj : ∀ {f g : NF}, f.name = g.name → f = g := by
  intro f g
  cases f <;> cases g <;> first | (intro _; rfl) | (intro h; exact absurd h (by decide))
theorem TF.name_inj : ∀ {f g : TF}, f.name = g.name → f = g := by
  intro f g
  cases f <;> cases g <;> first | (intro _; rfl) | (intro h; exact absurd h (by decide))

section
variable {W : Wc} {c : Fc} {ρ : Env0} {st : St}

/-- the ledger with one object of the tracked kind changed -/
theorem Stp.upd {T : Tag → Bool} {μ : Mu} {own : Addr → Tag} {news news' : Led0} {d : Addr} (h : ∀ p ∈ news, p.1 ≠ d → p ∈ news') (k3 : news'.map (·.1) = news.map (·.1)) (hT : T (own d) = false) : Stp T μ own news μ own news' :=
  ⟨fun _ _ h => h, fun _ _ h => h, rfl, rfl, fun p hp ht => ⟨h p hp (fun e => by rw [e, hT] at ht; cases ht), rfl⟩, fun p hp => by rw [k3]; exact List.mem_map_of_mem (f := (·.1)) hp⟩

theorem Prs.stepv {μ μ' : Mu} {own own' : Addr → Tag} {news news' : Led0} {xs : List (Int × V)} {vs : List (Int × Value)} (h : Prs μ own news xs vs) (S : StV μ own news μ' own' news') : Prs μ' own' news' xs vs := by
  induction h with
  | nil => exact .nil
  | cons h _ ih => exact .cons (h.stepv S) ih
theorem NodeAt.stepv {i : Nat} {μ μ' : Mu} {own own' : Addr → Tag} {news news' : Led0} {es : List DictEntry} (h : NodeAt st i μ own news es) (S : StV μ own news μ' own' news') :
    NodeAt st i μ' own' news' es := ⟨h.len, fun f => let ⟨v, a, b⟩ := h.get f; ⟨v, a, b.stepv S⟩⟩
theorem TreeAt.stepv {μ μ' : Mu} {own own' : Addr → Tag} {news news' : Led0} {es : List DictEntry} (h : TreeAt st μ own news es) (S : StV μ own news μ' own' news') :
    TreeAt st μ' own' news' es := ⟨h.len, fun f => let ⟨v, a, b⟩ := h.get f; ⟨v, a, b.stepv S⟩⟩
theorem Prs.step {T : Tag → Bool} {μ μ' : Mu} {own own' : Addr → Tag} {news news' : Led0} {xs : List (Int × V)} {vs : List (Int × Value)} (h : Prs μ own news xs vs) (S : Stp T μ own news μ' own' news') (hT : T .fz = true := by rfl) :
    Prs μ' own' news' xs vs := by
  induction h with
  | nil => exact .nil
  | cons h _ ih => exact .cons (h.step S hT) ih
theorem NodeAt.step {T : Tag → Bool} {i : Nat} {μ μ' : Mu} {own own' : Addr → Tag} {news news' : Led0} {es : List DictEntry} (h : NodeAt st i μ own news es) (S : Stp T μ own news μ' own' news') (hT : T .fz = true := by rfl) :
    NodeAt st i μ' own' news' es := ⟨h.len, fun f => let ⟨v, a, b⟩ := h.get f; ⟨v, a, b.step S hT⟩⟩
theorem TreeAt.step {T : Tag → Bool} {μ μ' : Mu} {own own' : Addr → Tag} {news news' : Led0} {es : List DictEntry} (h : TreeAt st μ own news es) (S : Stp T μ own news μ' own' news') (hT : T .fz = true := by rfl) :
    TreeAt st μ' own' news' es := ⟨h.len, fun f => let ⟨v, a, b⟩ := h.get f; ⟨v, a, b.step S hT⟩⟩

theorem setAttr_V {d : Nat} {a v : V} {va vv : Value} {x : Str} {Q : Unit → St → Prop} {s : Shared} {μ : Mu} {own : Addr → Tag} {news : Led0} {m : Str → Option Value} (wk : W.Ok) (ok : c.Ok W d)
    (hR : Rel W c st μ own news m s) (ha : VR μ own news a va) (hv : VR μ own news v vv) (h : setV st a x v fun st' => Q () st') :
    wpAny (model W.prog W.w) c.A (setAttr va x vv) (Post W c TA EqR μ own news m s Q) (fun _ _ => False) s := by
  cases ha <;> try exact h.elim
  case node i p hp =>
    obtain ⟨f, st', rfl, hs, hq⟩ := h
    obtain ⟨o1, o2, h1, es, n, h2, hn⟩ := hR.D.nd i p hp
    obtain ⟨w0, hg, hw⟩ := hn.get f
    obtain ⟨s1, s2, s3, s4⟩ := St.setN_spec hs
    obtain ⟨news', U, k1, k2, k3⟩ := upd_of_mem (o' := dictOf (putL f.name (PyData.keyHash W.w.params f.name) (.str f.name (s.toks + 1)) vv es) (putN f.name es n)) h2 hR.D.nodup
    have S : Stp TA μ own news μ own news' := Stp.upd k1 k3 (by rw [o2]; rfl)
    refine set_dict hR.F ok.X hR.N (InstAt.of_news hR.N h1 h2) rfl wk.cn.sa wk.cn.po (wk.cn.tk f) wk.cn.hd (by rw [hg]; rfl) rfl U (by rw [putL_length hg]; have := hn.len; omega) fun h' F' N' => ?_
    refine ⟨(), st', μ, own, news', S, ⟨F', N', ?_⟩, rfl, rfl, hq⟩
    refine ⟨k3 ▸ hR.D.nodup, hR.D.nlen.trans s4.nn.symm, fun j q hq' => ?_, hR.D.ll.trans (by rw [s4.lists]), fun j b xs hb hx => ?_, ?_, ?_, ?_, ?_⟩
    · obtain ⟨p1, p2, p3, es', n', p4, p5⟩ := hR.D.nd j q hq'
      have p3' : (q.1, instObj W.Cn q.2) ∈ news' := k1 _ p3 (fun e => by have e : q.1 = p.2 := e; rw [e, o2] at p1; cases p1)
      by_cases hji : j = i
      · subst hji
        have e : q = p := Option.some.inj (hq'.symm.trans hp)
        subst e
        refine ⟨p1, p2, p3', _, _, k2, by rw [putL_length hg]; exact hn.len, fun g => ?_⟩
        by_cases hgf : g = f
        · subst hgf
          exact ⟨vv, getL_putL_self hg, by rw [s1]; exact hv.step S⟩
        · obtain ⟨u, hu, hu'⟩ := hn.get g
          refine ⟨u, getL_putL_ne (fun e => hgf (NF.name_inj e)) hg hu, ?_⟩
          rw [s2 _ _ (.inr hgf)]; exact hu'.step S
      · refine ⟨p1, p2, p3', es', n', k1 _ p4 (fun e => hji (by have e : q.2 = p.2 := e; rw [e, o2] at p2; cases p2; rfl)), p5.len, fun g => ?_⟩
        obtain ⟨u, hu, hu'⟩ := p5.get g
        refine ⟨u, hu, ?_⟩
        rw [s2 _ _ (.inl hji)]; exact hu'.step S
    · rw [s4.lists] at hx
      obtain ⟨p1, vs, n', p2, p3⟩ := hR.D.ls j b xs hb hx
      exact ⟨p1, vs, n', k1 _ p2 (fun e => by have e : b = p.2 := e; rw [e, o2] at p1; cases p1), p3.step S⟩
    · obtain ⟨p1, p2, p3, es', n', p4, p5⟩ := hR.D.tr
      refine ⟨p1, p2, k1 _ p3 (fun e => by have e : μ.tr.1 = p.2 := e; rw [e, o2] at p1; cases p1), es', n', k1 _ p4 (fun e => by have e : μ.tr.2 = p.2 := e; rw [e, o2] at p2; cases p2), p5.len, fun g => ?_⟩
      obtain ⟨u, hu, hu'⟩ := p5.get g
      exact ⟨u, hu, by rw [s3]; exact hu'.step S⟩
    · obtain ⟨p1, p2, o, kvs, p3, p4, p5⟩ := hR.D.dc
      exact ⟨p1, p2, o, kvs, k1 _ p3 (fun e => by have e : μ.dc = p.2 := e; rw [e, o2] at p1; cases p1), p4, by rw [s4.places]; exact p5.step S⟩
    · rw [s4.lists]; exact hR.D.fl
    · rw [s4.places]; exact hR.D.pl
  case tree =>
    obtain ⟨f, st', rfl, hs, hq⟩ := h
    obtain ⟨o1, o2, h1, es, n, h2, hn⟩ := hR.D.tr
    obtain ⟨w0, hg, hw⟩ := hn.get f
    obtain ⟨s1, s2, s3, s4⟩ := St.setT_spec hs
    obtain ⟨news', U, k1, k2, k3⟩ := upd_of_mem (o' := dictOf (putL f.name (PyData.keyHash W.w.params f.name) (.str f.name (s.toks + 1)) vv es) (putN f.name es n)) h2 hR.D.nodup
    have S : Stp TA μ own news μ own news' := Stp.upd k1 k3 (by rw [o2]; rfl)
    refine set_dict hR.F ok.X hR.N (InstAt.of_news hR.N h1 h2) rfl wk.ct.sa wk.ct.po (wk.ct.tk f) wk.ct.hd (by rw [hg]; rfl) rfl U (by rw [putL_length hg]; have := hn.len; omega) fun h' F' N' => ?_
    refine ⟨(), st', μ, own, news', S, ⟨F', N', ?_⟩, rfl, rfl, hq⟩
    refine ⟨k3 ▸ hR.D.nodup, hR.D.nlen.trans s4.nn.symm, fun j q hq' => ?_, hR.D.ll.trans (by rw [s4.lists]), fun j b xs hb hx => ?_, ?_, ?_, ?_, ?_⟩
    · obtain ⟨p1, p2, p3, es', n', p4, p5⟩ := hR.D.nd j q hq'
      refine ⟨p1, p2, k1 _ p3 (fun e => by have e : q.1 = μ.tr.2 := e; rw [e, o2] at p1; cases p1), es', n', k1 _ p4 (fun e => by have e : q.2 = μ.tr.2 := e; rw [e, o2] at p2; cases p2), p5.len, fun g => ?_⟩
      obtain ⟨u, hu, hu'⟩ := p5.get g
      exact ⟨u, hu, by rw [s3]; exact hu'.step S⟩
    · rw [s4.lists] at hx
      obtain ⟨p1, vs, n', p2, p3⟩ := hR.D.ls j b xs hb hx
      exact ⟨p1, vs, n', k1 _ p2 (fun e => by have e : b = μ.tr.2 := e; rw [e, o2] at p1; cases p1), p3.step S⟩
    · refine ⟨o1, o2, k1 _ h1 (fun e => by have e : μ.tr.1 = μ.tr.2 := e; rw [e, o2] at o1; cases o1), _, _, k2, by rw [putL_length hg]; exact hn.len, fun g => ?_⟩
      by_cases hgf : g = f
      · subst hgf
        exact ⟨vv, getL_putL_self hg, by rw [s1]; exact hv.step S⟩
      · obtain ⟨u, hu, hu'⟩ := hn.get g
        refine ⟨u, getL_putL_ne (fun e => hgf (TF.name_inj e)) hg hu, ?_⟩
        rw [s2 _ hgf]; exact hu'.step S
    · obtain ⟨p1, p2, o, kvs, p3, p4, p5⟩ := hR.D.dc
      exact ⟨p1, p2, o, kvs, k1 _ p3 (fun e => by have e : μ.dc = μ.tr.2 := e; rw [e, o2] at p1; cases p1), p4, by rw [s4.places]; exact p5.step S⟩
    · rw [s4.lists]; exact hR.D.fl
    · rw [s4.places]; exact hR.D.pl
end
end
-- == M5
section
open PySem PySem.W PySem.Calls PyProof.Rows
set_option linter.unusedVariables false

inductive FV | next | brk | cont | ret (v : V)
inductive FR (μ : Mu) (own : Addr → Tag) (news : Led0) : FV → Flow → Prop where
  | next : FR μ own news .next .next
  | brk : FR μ own news .brk .brk
  | cont : FR μ own news .cont .cont
  | ret {v : V} {cv : Value} : VR μ own news v cv → FR μ own news (.ret v) (.ret cv)

noncomputable def setL : Env0 → Str → V → Env0
  | [], x, a => [(x, a)]
  | (y, b) :: r, x, a => if y == x then (x, a) :: r else (y, b) :: setL r x a
theorem lookup_setL {x y : Str} {a : V} : ∀ {ρ : Env0}, (setL ρ x a).lookup y = if y = x then some a else ρ.lookup y
  | [] => by
    unfold setL
    by_cases h : y = x
    · subst h; simp
    · have : (y == x) = false := beq_eq_false_iff_ne.mpr h
      simp [List.lookup_cons, this, h]
  | (z, b) :: r => by
    unfold setL
    by_cases hz : z = x
    · subst hz
      simp only [beq_self_eq_true, if_true, List.lookup_cons]
      by_cases h : y = z
      · subst h; simp
      · have : (y == z) = false := beq_eq_false_iff_ne.mpr h
        simp [this, h]
    · have hz' : (z == x) = false := beq_eq_false_iff_ne.mpr hz
      rw [hz']
      simp only [Bool.false_eq_true, if_false, List.lookup_cons]
      by_cases h : y = z
      · subst h
        simp only [beq_self_eq_true]
        rw [if_neg hz]
      · have : (y == z) = false := beq_eq_false_iff_ne.mpr h
        simp only [this]
        exact lookup_setL

inductive PostS (W : Wc) (c : Fc) (μ : Mu) (own : Addr → Tag) (news : Led0) (s : Shared) (Q : FV → Env0 → St → Prop) (f : Flow) (s' : Shared) : Prop
  | mk : ∀ fv ρ' st' μ' own' news' m', Stp TS μ own news μ' own' news' → Rel W c st' μ' own' news' m' s' → Loc c ρ' m' μ' own' news' → FR μ' own' news' fv f → Same s s' → Q fv ρ' st' → PostS W c μ own news s Q f s'

noncomputable def TriG (W : Wc) (c : Fc) (t : Sem Flow) (ρ : Env0) (st : St) (Q : FV → Env0 → St → Prop) : Prop :=
  ∀ s μ own news m, Rel W c st μ own news m s → Loc c ρ m μ own news → wpAny (model W.prog W.w) c.A t (PostS W c μ own news s Q) (fun _ _ => False) s
noncomputable abbrev TriS (W : Wc) (c : Fc) (ss : List Stmt) (ρ : Env0) (st : St) (Q : FV → Env0 → St → Prop) : Prop := TriG W c (execs ss c.env) ρ st Q
noncomputable abbrev TriX (W : Wc) (c : Fc) (x : Stmt) (ρ : Env0) (st : St) (Q : FV → Env0 → St → Prop) : Prop := TriG W c (exec x c.env) ρ st Q

section
variable {W : Wc} {c : Fc} {ρ : Env0} {st : St}

theorem PostS.after {μ μ' : Mu} {own own' : Addr → Tag} {news news' : Led0} {s s₁ s' : Shared} {Q : FV → Env0 → St → Prop} {f : Flow}
    (S : Stp TS μ own news μ' own' news') (hs : Same s s₁) (h : PostS W c μ' own' news' s₁ Q f s') : PostS W c μ own news s Q f s' := by
  obtain ⟨fv, ρ', st', μ2, own2, news2, m2, S2, R2, L2, r2, e2, q2⟩ := h
  exact ⟨fv, ρ', st', μ2, own2, news2, m2, S.trans S2, R2, L2, r2, hs.trans e2, q2⟩
theorem TriG.mono {t : Sem Flow} {Q Q' : FV → Env0 → St → Prop} (h : TriG W c t ρ st Q) (k : ∀ f ρ st, Q f ρ st → Q' f ρ st) : TriG W c t ρ st Q' :=
  fun s μ own news m hR hL => wpAny_mono (h s μ own news m hR hL) (fun f s' p => by
    obtain ⟨fv, ρ', st', μ2, own2, news2, m2, S2, R2, L2, r2, e2, q2⟩ := p
    exact ⟨fv, ρ', st', μ2, own2, news2, m2, S2, R2, L2, r2, e2, k _ _ _ q2⟩) fun _ _ x => x

theorem TriS_nil {Q : FV → Env0 → St → Prop} (h : Q .next ρ st) : TriS W c [] ρ st Q :=
  fun s μ own news m hR hL => wpAny_execs_nil ⟨.next, ρ, st, μ, own, news, m, Stp.refl .., hR, hL, .next, rfl, h⟩
@[reducible] noncomputable def SeqQ (W : Wc) (c : Fc) (xs : List Stmt) (Q : FV → Env0 → St → Prop) (f : FV) (ρ : Env0) (st : St) : Prop := match f with | .next => TriS W c xs ρ st Q | f => Q f ρ st
theorem TriS_cons {x : Stmt} {xs : List Stmt} {Q : FV → Env0 → St → Prop} (h : TriX W c x ρ st (SeqQ W c xs Q)) : TriS W c (x :: xs) ρ st Q := by
  intro s μ own news m hR hL
  refine wpAny_execs_cons (wpAny_mono (h s μ own news m hR hL) (fun f s' p => ?_) fun _ _ x => x)
  obtain ⟨fv, ρ', st', μ2, own2, news2, m2, S2, R2, L2, r2, e2, q2⟩ := p
  cases r2 with
  | next => exact wpAny_mono (q2 s' μ2 own2 news2 m2 R2 L2) (fun _ _ p => p.after S2 e2) fun _ _ x => x
  | brk => exact ⟨.brk, ρ', st', μ2, own2, news2, m2, S2, R2, L2, .brk, e2, q2⟩
  | cont => exact ⟨.cont, ρ', st', μ2, own2, news2, m2, S2, R2, L2, .cont, e2, q2⟩
  | ret hv => exact ⟨.ret _, ρ', st', μ2, own2, news2, m2, S2, R2, L2, .ret hv, e2, q2⟩

/-- a tree that gives a value, then a rest -/
theorem G_then {α β : Type} {t : Sem α} {R : Mu → (Addr → Tag) → Led0 → β → α → Prop} {Q : β → St → Prop} {Z : α → Shared → Prop} {s : Shared} {μ : Mu} {own : Addr → Tag} {news : Led0} {m : Str → Option Value}
    (h : Ev W c t R ρ st Q) (hR : Rel W c st μ own news m s) (hL : Loc c ρ m μ own news)
    (k : ∀ v s' b st' μ' own' news', Stp TA μ own news μ' own' news' → Rel W c st' μ' own' news' m s' → Loc c ρ m μ' own' news' → R μ' own' news' b v → Same s s' → Q b st' → Z v s') :
    wpAny (model W.prog W.w) c.A t Z (fun _ _ => False) s := wpAny_then h hR hL k

theorem TriX_if {t : Expr} {b o : List Stmt} {p : Pos} {Q : FV → Env0 → St → Prop} (h : TriT W c t ρ st fun z st' => if z = true then TriS W c b ρ st' Q else TriS W c o ρ st' Q) : TriX W c (.If t b o p) ρ st Q := by
  intro s μ own news m hR hL
  refine wpAny_If (wpAny_then h hR hL fun z s' z' st' μ' own' news' S R' L' r e q => ?_)
  cases r
  cases z
  · simp only [Bool.false_eq_true, if_false] at q ⊢
    exact wpAny_mono (q s' μ' own' news' m R' L') (fun _ _ p => p.after S.AtoS e) fun _ _ x => x
  · simp only [if_true] at q ⊢
    exact wpAny_mono (q s' μ' own' news' m R' L') (fun _ _ p => p.after S.AtoS e) fun _ _ x => x
theorem TriX_ret {e : Expr} {p : Pos} {Q : FV → Env0 → St → Prop} (h : TriE W c e ρ st fun v st' => Q (.ret v) ρ st') : TriX W c (.Return (some e) p) ρ st Q := by
  intro s μ own news m hR hL
  refine wpAny_Return_some (wpAny_then h hR hL fun v s' a st' μ' own' news' S R' L' r e q => ?_)
  exact ⟨.ret a, ρ, st', μ', own', news', m, S.AtoS, R', L', .ret r, e, q⟩
theorem TriX_ret0 {p : Pos} {Q : FV → Env0 → St → Prop} (h : Q (.ret .none) ρ st) : TriX W c (.Return none p) ρ st Q :=
  fun s μ own news m hR hL => wpAny_Return_none ⟨.ret .none, ρ, st, μ, own, news, m, Stp.refl .., hR, hL, .ret .none, rfl, h⟩
theorem TriX_expr {e : Expr} {p : Pos} {Q : FV → Env0 → St → Prop} (hs : swapsWith e none p.line c.env = pure false) (h : TriE W c e ρ st fun _ st' => Q .next ρ st') (hi : interactive c.env = false := by rfl) : TriX W c (.Expr e p) ρ st Q := by
  intro s μ own news m hR hL
  refine wpAny_Expr_any (wpAny_then h hR hL fun v s' a st' μ' own' news' S R' L' r e q => ?_) hi hs
  exact ⟨.next, ρ, st', μ', own', news', m, S.AtoS, R', L', .next, e, q⟩

/-- a name of the frame is bound -/
theorem Loc.bind {μ : Mu} {own : Addr → Tag} {news : Led0} {m : Str → Option Value} {x : Str} {a : V} {v : Value} (hL : Loc c ρ m μ own news) (hk : c.cs.names.lookup x = some .local) (hv : VR μ own news a v) :
    Loc c (setL ρ x a) (fun y => if y = x then some v else m y) μ own news := by
  intro y b e
  rw [lookup_setL] at e
  by_cases h : y = x
  · subst h
    rw [if_pos rfl] at e
    cases e
    exact ⟨fun _ => ⟨v, if_pos rfl, hv⟩, fun k => by rw [hk] at k; cases k⟩
  · rw [if_neg h] at e
    obtain ⟨h1, h2⟩ := hL y b e
    exact ⟨fun k => let ⟨cv, a1, a2⟩ := h1 k; ⟨cv, by simp only [if_neg h]; exact a1, a2⟩, h2⟩
theorem store_V {d : Nat} {x : Str} {a : V} {v : Value} {Z : Unit → Shared → Prop} {s : Shared} {μ : Mu} {own : Addr → Tag} {news : Led0} {m : Str → Option Value} (ok : c.Ok W d)
    (hk : c.cs.names.lookup x = some .local) (hR : Rel W c st μ own news m s) (hL : Loc c ρ m μ own news) (hv : VR μ own news a v)
    (k : ∀ s' m', Rel W c st μ own news m' s' → Loc c (setL ρ x a) m' μ own news → Same s s' → Z () s') :
    wpAny (model W.prog W.w) c.A (storeName c.env x v) Z (fun _ _ => False) s :=
  storeX_L hR.F hR.N (fun h' F' N' => k _ _ ⟨F', N', hR.D⟩ (hL.bind hk hv) rfl) ok.hk hk
theorem TriX_name {d : Nat} {x : Str} {e : Expr} {p p' : Pos} {Q : FV → Env0 → St → Prop} (ok : c.Ok W d) (hk : c.cs.names.lookup x = some .local)
    (hs : swapsWith e (some (.Name x p')) p.line c.env = pure false) (h : TriE W c e ρ st fun v st' => Q .next (setL ρ x v) st') : TriX W c (.Assign [.Name x p'] e p) ρ st Q := by
  intro s μ own news m hR hL
  refine wpAny_Assign_Name (wpAny_then h hR hL fun v s' a st' μ' own' news' S R' L' r e q => ?_) hs
  exact store_V ok hk R' L' r fun s'' m' R'' L'' e' => ⟨.next, _, st', μ', own', news', m', S.AtoS, R'', L'', .next, e.trans e', q⟩
theorem TriX_attr {d : Nat} {x : Str} {o e : Expr} {p p' : Pos} {Q : FV → Env0 → St → Prop} (wk : W.Ok) (ok : c.Ok W d)
    (hs : swapsWith e (some (.Attribute o x p')) p.line c.env = pure false) (h : TriE W c e ρ st fun v st' => TriE W c o ρ st' fun a st'' => setV st'' a x v fun st3 => Q .next ρ st3) : TriX W c (.Assign [.Attribute o x p'] e p) ρ st Q := by
  intro s μ own news m hR hL
  refine plainObj_wpAny_Assign_Attribute (two_V h hR hL fun vv va s' v a st' μ' own' news' S R' L' rv ra e q => ?_) hs
  refine wpAny_mono (setAttr_V wk ok R' ra rv (Q := fun _ st3 => Q .next ρ st3) q) (fun _ s3 p => ?_) fun _ _ x => x
  obtain ⟨b3, st3, μ3, own3, news3, S3, R3, r3, e3, q3⟩ := p
  exact ⟨.next, ρ, st3, μ3, own3, news3, m, (S.trans S3).AtoS, R3, L'.step S3, .next, e.trans e3, q3⟩

end
end
-- == M6
section
open PySem PySem.W PySem.Calls PyProof.Rows
set_option linter.unusedVariables false

noncomputable def ownAt (own : Addr → Tag) (a : Addr) (t : Tag) : Addr → Tag := fun b => if b = a then t else own b
theorem ownAt_self {own : Addr → Tag} {a : Addr} {t : Tag} : ownAt own a t a = t := if_pos rfl
theorem ownAt_ne {own : Addr → Tag} {a b : Addr} {t : Tag} (h : b ≠ a) : ownAt own a t b = own b := if_neg h

section
variable {W : Wc} {c : Fc} {ρ : Env0} {st : St}

theorem Stp.grow {T : Tag → Bool} {μ : Mu} {own : Addr → Tag} {news : Led0} {a : Addr} {o : Obj} {t : Tag} (hf : ∀ p ∈ news, p.1 ≠ a) : Stp T μ own news μ (ownAt own a t) ((a, o) :: news) :=
  ⟨fun _ _ h => h, fun _ _ h => h, rfl, rfl, fun p hp _ => ⟨.tail _ hp, ownAt_ne (hf p hp)⟩, fun p hp => by rw [List.map_cons]; exact .tail _ (List.mem_map_of_mem (f := (·.1)) hp)⟩
theorem Led.grow {prog : Program} {w : World} {Cn Ct : Addr} {μ : Mu} {own : Addr → Tag} {news : Led0} {a : Addr} {o : Obj} {t : Tag} (D : Led prog w Cn Ct st μ own news) (hf : ∀ p ∈ news, p.1 ≠ a) :
    Led prog w Cn Ct st μ (ownAt own a t) ((a, o) :: news) := by
  have S : Stp TA μ own news μ (ownAt own a t) ((a, o) :: news) := Stp.grow hf
  refine ⟨?_, D.nlen, fun i p hp => ?_, D.ll, fun i b xs hb hx => ?_, ?_, ?_, D.fl, D.pl⟩
  · rw [List.map_cons, List.nodup_cons]
    refine ⟨fun h => ?_, D.nodup⟩
    obtain ⟨p, hp, e⟩ := List.mem_map.mp h
    exact hf p hp e
  · obtain ⟨h1, h2, h3, es, n, h4, h5⟩ := D.nd i p hp
    exact ⟨(ownAt_ne (hf _ h3)).trans h1, (ownAt_ne (hf _ h4)).trans h2, .tail _ h3, es, n, .tail _ h4, h5.step S⟩
  · obtain ⟨h1, vs, n, h2, h3⟩ := D.ls i b xs hb hx
    exact ⟨(ownAt_ne (hf _ h2)).trans h1, vs, n, .tail _ h2, h3.step S⟩
  · obtain ⟨h1, h2, h3, es, n, h4, h5⟩ := D.tr
    exact ⟨(ownAt_ne (hf _ h3)).trans h1, (ownAt_ne (hf _ h4)).trans h2, .tail _ h3, es, n, .tail _ h4, h5.step S⟩
  · obtain ⟨h1, h2, o', kvs, h3, h4, h5⟩ := D.dc
    exact ⟨(ownAt_ne (hf _ h3)).trans h1, h2, o', kvs, .tail _ h3, h4, h5.step S⟩

theorem Rel.fresh {μ : Mu} {own : Addr → Tag} {news : Led0} {m : Str → Option Value} {s : Shared} (hR : Rel W c st μ own news m s) : ∀ p ∈ news, p.1 ≠ s.heap.objs.size :=
  fun p hp => Nat.ne_of_lt (Heap.lt_size (hR.N p hp).1)

/-- a tuple of values -/
theorem newTuple_V {xs : List V} {vs : List Value} {Z : Value → Shared → Prop} {s : Shared} {μ : Mu} {own : Addr → Tag} {news : Led0} {m : Str → Option Value} (hR : Rel W c st μ own news m s) (hv : VRs μ own news xs vs) (hz : vs.length ≤ 1000)
    (k : ∀ v s' own' news', Stp TA μ own news μ own' news' → Rel W c st μ own' news' m s' → VR μ own' news' (.tup xs) v → Same s s' → Z v s') :
    wpAny (model W.prog W.w) c.A (newTuple vs) Z (fun _ _ => False) s := by
  refine newTuple_N hR.F hR.N (fun h' F' N' => ?_) (by rw [sizeLine_eq]; omega)
  have S : Stp TA μ own news μ (ownAt own s.heap.objs.size .fz) ((s.heap.objs.size, tupOf vs 0) :: news) := Stp.grow hR.fresh
  exact k _ _ _ _ S ⟨F', N', hR.D.grow hR.fresh⟩ (.tup (n := 0) (.head _) ownAt_self (hv.step S)) rfl
theorem TriE_tuple {es : List Expr} {k : Nat} {p : Pos} {Q : V → St → Prop} (h : TriEs W c p es ρ st fun xs st' => xs.length ≤ 1000 ∧ Q (.tup xs) st') : TriE W c (.Tuple es k p) ρ st Q := by
  intro s μ own news m hR hL
  refine Tuple_ (wpAny_then h hR hL fun vs s' xs st' μ' own' news' S R' L' r e q => ?_)
  refine newTuple_V R' r (by rw [← r.length]; exact q.1) fun v s'' own'' news'' S' R'' r' e' => ?_
  exact ⟨.tup xs, st', μ', own'', news'', S.trans S', R'', r', e.trans e', q.2⟩

/-- a new list that is tracked -/
noncomputable def St.addL (st : St) (xs : List V) : St := { st with lists := st.lists ++ [xs] }
noncomputable def Mu.addL (μ : Mu) (a : Addr) : Mu := { μ with ls := μ.ls ++ [a] }
theorem Stp.addL {T : Tag → Bool} {μ : Mu} {own : Addr → Tag} {news : Led0} {a : Addr} {o : Obj} {t : Tag} (hf : ∀ p ∈ news, p.1 ≠ a) : Stp T μ own news (μ.addL a) (ownAt own a t) ((a, o) :: news) :=
  ⟨fun _ _ h => h, fun i b h => by
    have hi : i < μ.ls.length := (List.getElem?_eq_some_iff.mp h).1
    show (μ.ls ++ [a])[i]? = some b
    rw [List.getElem?_append_left hi]; exact h, rfl, rfl, fun p hp _ => ⟨.tail _ hp, ownAt_ne (hf p hp)⟩, fun p hp => by rw [List.map_cons]; exact .tail _ (List.mem_map_of_mem (f := (·.1)) hp)⟩
theorem Led.addL {prog : Program} {w : World} {Cn Ct : Addr} {μ : Mu} {own : Addr → Tag} {news : Led0} {a : Addr} {xs : List V} {vs : List Value} {n : Nat} (D : Led prog w Cn Ct st μ own news) (hf : ∀ p ∈ news, p.1 ≠ a) (hv : VRs μ own news xs vs) (hn : nls xs = true) :
    Led prog w Cn Ct (st.addL xs) (μ.addL a) (ownAt own a (.ls st.lists.length)) ((a, listOf vs.toArray n) :: news) := by
  have S : Stp TA μ own news (μ.addL a) (ownAt own a (.ls st.lists.length)) ((a, listOf vs.toArray n) :: news) := Stp.addL hf
  refine ⟨?_, D.nlen, fun i p hp => ?_, ?_, fun i b ys hb hx => ?_, ?_, ?_, ?_, D.pl⟩
  · rw [List.map_cons, List.nodup_cons]
    refine ⟨fun h => ?_, D.nodup⟩
    obtain ⟨p, hp, e⟩ := List.mem_map.mp h
    exact hf p hp e
  · obtain ⟨h1, h2, h3, es, n, h4, h5⟩ := D.nd i p hp
    refine ⟨(ownAt_ne (hf _ h3)).trans h1, (ownAt_ne (hf _ h4)).trans h2, .tail _ h3, es, n, .tail _ h4, h5.len, fun f => ?_⟩
    obtain ⟨v, a1, a2⟩ := h5.get f
    exact ⟨v, a1, a2.step S⟩
  · show (μ.ls ++ [a]).length = (st.lists ++ [xs]).length
    simp [D.ll]
  · have hb : (μ.ls ++ [a])[i]? = some b := hb
    have hx : (st.lists ++ [xs])[i]? = some ys := hx
    by_cases hi : i < st.lists.length
    · rw [List.getElem?_append_left hi] at hx
      rw [List.getElem?_append_left (by rw [D.ll]; exact hi)] at hb
      obtain ⟨h1, vs', n', h2, h3⟩ := D.ls i b ys hb hx
      exact ⟨(ownAt_ne (hf _ h2)).trans h1, vs', n', .tail _ h2, h3.step S⟩
    · have hi' : i = st.lists.length := by
        have := (List.getElem?_eq_some_iff.mp hx).1
        simp at this; omega
      subst hi'
      rw [List.getElem?_append_right (Nat.le_refl _)] at hx
      rw [List.getElem?_append_right (by rw [D.ll]; exact Nat.le_refl _)] at hb
      simp at hx
      simp [D.ll] at hb
      subst hx hb
      exact ⟨ownAt_self, vs, n, .head _, hv.step S⟩
  · obtain ⟨h1, h2, h3, es, n, h4, h5⟩ := D.tr
    refine ⟨(ownAt_ne (hf _ h3)).trans h1, (ownAt_ne (hf _ h4)).trans h2, .tail _ h3, es, n, .tail _ h4, h5.len, fun f => ?_⟩
    obtain ⟨v, a1, a2⟩ := h5.get f
    exact ⟨v, a1, a2.step S⟩
  · obtain ⟨h1, h2, o', kvs, h3, h4, h5⟩ := D.dc
    exact ⟨(ownAt_ne (hf _ h3)).trans h1, h2, o', kvs, .tail _ h3, h4, h5.step S⟩
  · intro ys hy
    rcases List.mem_append.mp (show ys ∈ st.lists ++ [xs] from hy) with h | h
    · exact D.fl ys h
    · rw [List.mem_singleton.mp h]; exact hn
theorem TriE_list {es : List Expr} {p : Pos} {Q : V → St → Prop} (h : TriEs W c p es ρ st fun xs st' => (xs.length ≤ 1000 ∧ nls xs = true) ∧ Q (.list st'.lists.length) (st'.addL xs)) : TriE W c (.List es p) ρ st Q := by
  intro s μ own news m hR hL
  refine List_ (wpAny_then h hR hL fun vs s' xs st' μ' own' news' S R' L' r e q => ?_)
  refine newList_K R'.F R'.N (fun l h' F' N' hl => ?_) (by rw [sizeLine_eq, ← r.length]; have := q.1.1; omega)
  have hf : ∀ p ∈ news', p.1 ≠ l := fun p hp => Nat.ne_of_lt (hl p hp)
  refine ⟨.list st'.lists.length, st'.addL xs, μ'.addL l, _, _, S.trans (Stp.addL hf), ⟨F', N', R'.D.addL hf r q.1.2⟩, .list ?_, e.trans rfl, q.2⟩
  show (μ'.ls ++ [l])[st'.lists.length]? = some l
  rw [← R'.D.ll]; simp
/-- a list of values that stays as it is -/
theorem newList_fl {xs : List V} {vs : List Value} {Z : Value → Shared → Prop} {s : Shared} {μ : Mu} {own : Addr → Tag} {news : Led0} {m : Str → Option Value} (hR : Rel W c st μ own news m s) (hv : VRs μ own news xs vs) (hz : vs.length ≤ 1000)
    (k : ∀ v s' own' news', Stp TA μ own news μ own' news' → Rel W c st μ own' news' m s' → VR μ own' news' (.fl xs) v → Same s s' → Z v s') :
    wpAny (model W.prog W.w) c.A (newList vs) Z (fun _ _ => False) s := by
  refine newList_K hR.F hR.N (fun l h' F' N' hl => ?_) (by rw [sizeLine_eq]; omega)
  have hf : ∀ p ∈ news, p.1 ≠ l := fun p hp => Nat.ne_of_lt (hl p hp)
  have S : Stp TA μ own news μ (ownAt own l .fz) ((l, listOf vs.toArray 0) :: news) := Stp.grow hf
  exact k _ _ _ _ S ⟨F', N', hR.D.grow hf⟩ (.fl (.head _) ownAt_self (hv.step S)) rfl

/-- a tracked list is changed -/
noncomputable def St.setL (st : St) (i : Nat) (xs : List V) : St := { st with lists := st.lists.set i xs }
theorem Led.setL {prog : Program} {w : World} {Cn Ct : Addr} {μ : Mu} {own : Addr → Tag} {news news' : Led0} {i : Nat} {a : Addr} {xs : List V} {vs : List Value} {n : Nat} (D : Led prog w Cn Ct st μ own news) (ha : μ.ls[i]? = some a)
    (hown : own a = .ls i) (hv : VRs μ own news xs vs) (hn : nls xs = true) (k1 : ∀ p ∈ news, p.1 ≠ a → p ∈ news') (k2 : (a, listOf vs.toArray n) ∈ news') (k3 : news'.map (·.1) = news.map (·.1)) :
    Led prog w Cn Ct (st.setL i xs) μ own news' := by
  have S : Stp TA μ own news μ own news' := Stp.upd k1 k3 (by rw [hown]; rfl)
  refine ⟨k3 ▸ D.nodup, D.nlen, fun j q hq' => ?_, D.ll.trans (by simp [St.setL]), fun j b ys hb hx => ?_, ?_, ?_, fun ys hy => ?_, D.pl⟩
  · obtain ⟨p1, p2, p3, es', n', p4, p5⟩ := D.nd j q hq'
    refine ⟨p1, p2, k1 _ p3 (fun e => by have e : q.1 = a := e; rw [e, hown] at p1; cases p1), es', n', k1 _ p4 (fun e => by have e : q.2 = a := e; rw [e, hown] at p2; cases p2), p5.len, fun g => ?_⟩
    obtain ⟨u, hu, hu'⟩ := p5.get g
    exact ⟨u, hu, hu'.step S⟩
  · have hx : (st.lists.set i xs)[j]? = some ys := hx
    by_cases hji : j = i
    · subst hji
      have e : a = b := Option.some.inj (ha.symm.trans hb)
      subst e
      have hlt : j < st.lists.length := by have := (List.getElem?_eq_some_iff.mp hx).1; simpa using this
      rw [List.getElem?_set_self hlt] at hx
      cases hx
      exact ⟨hown, vs, n, k2, hv.step S⟩
    · rw [List.getElem?_set_ne (Ne.symm hji)] at hx
      obtain ⟨p1, vs', n', p2, p3⟩ := D.ls j b ys hb hx
      exact ⟨p1, vs', n', k1 _ p2 (fun e => hji (by have e : b = a := e; rw [e, hown] at p1; cases p1; rfl)), p3.step S⟩
  · obtain ⟨p1, p2, p3, es', n', p4, p5⟩ := D.tr
    refine ⟨p1, p2, k1 _ p3 (fun e => by have e : μ.tr.1 = a := e; rw [e, hown] at p1; cases p1), es', n', k1 _ p4 (fun e => by have e : μ.tr.2 = a := e; rw [e, hown] at p2; cases p2), p5.len, fun g => ?_⟩
    obtain ⟨u, hu, hu'⟩ := p5.get g
    exact ⟨u, hu, hu'.step S⟩
  · obtain ⟨p1, p2, o, kvs, p3, p4, p5⟩ := D.dc
    exact ⟨p1, p2, o, kvs, k1 _ p3 (fun e => by have e : μ.dc = a := e; rw [e, hown] at p1; cases p1), p4, p5.step S⟩
  · rcases List.mem_or_eq_of_mem_set (show ys ∈ st.lists.set i xs from hy) with h | h
    · exact D.fl ys h
    · rw [h]; exact hn

theorem Led.listAt {prog : Program} {w : World} {Cn Ct : Addr} {μ : Mu} {own : Addr → Tag} {news : Led0} {i : Nat} {a : Addr} {xs : List V} (D : Led prog w Cn Ct st μ own news) (ha : μ.ls[i]? = some a) (hx : st.lists[i]? = some xs) :
    own a = .ls i ∧ ∃ vs n, (a, listOf vs.toArray n) ∈ news ∧ VRs μ own news xs vs := D.ls i a xs ha hx
end
end
-- == M7
section
open PySem PySem.W PySem.Calls PyProof.Rows
set_option linter.unusedVariables false

noncomputable abbrev FnSpec := List V → St → (V → St → Prop) → Prop

noncomputable def FnOK (W : Wc) (d : Nat) (f : Addr) (spec : FnSpec) : Prop :=
  ∀ (c : Fc) (st : St) (xs : List V) (Q : V → St → Prop), c.Ok W (d + 1) → spec xs st Q → ∀ s μ own news m, Rel W c st μ own news m s → ∀ vs, VRs μ own news xs vs →
    wpAny (model W.prog W.w) c.A (call (.ref f) vs) (Post W c TA VR μ own news m s Q) (fun _ _ => False) s

noncomputable def leaveSt (n : Nat) (st : St) : St := { st with lists := st.lists.take n }
noncomputable def leaveV (st : St) : V → V
  | .list i => .fl (st.lists.getD i [])
  | v => v
noncomputable def retOK (n : Nat) (st : St) : V → Prop
  | .list i => n ≤ i ∧ i < st.lists.length
  | v => nl v = true
noncomputable def LeaveQ (n : Nat) (Q : V → St → Prop) : FV → Env0 → St → Prop
  | .ret v, _, st => retOK n st v ∧ Q (leaveV st v) (leaveSt n st)
  | .next, _, st => Q .none (leaveSt n st)
  | _, _, _ => False

section
variable {W : Wc} {c : Fc} {ρ : Env0} {st : St}

theorem nl_ov {o : Option Nat} : nl (ov o) = true := by cases o <;> rfl
theorem nl_nf {st : St} {i : Nat} {f : NF} : nl (st.nf i f) = true := by cases f <;> first | rfl | exact nl_ov
theorem nl_tf {st : St} {f : TF} : nl (st.tf f) = true := by cases f <;> first | rfl | exact nl_ov
noncomputable def own0 (own : Addr → Tag) : Addr → Tag := fun b => if own b = .ce then .it else own b
noncomputable def own1 (own own' : Addr → Tag) (news : Led0) : Addr → Tag := fun b => if own b = .ce ∧ b ∈ news.map (·.1) then .ce else own' b

theorem own0_of_ne {own : Addr → Tag} {b : Addr} (h : own b ≠ .ce) : own0 own b = own b := if_neg h
theorem Stp.own0V {μ : Mu} {own : Addr → Tag} {news : Led0} : Stp TV μ own news μ (own0 own) news :=
  ⟨fun _ _ h => h, fun _ _ h => h, rfl, rfl, fun p hp ht => ⟨hp, own0_of_ne (fun e => by rw [e] at ht; cases ht)⟩, fun p hp => List.mem_map_of_mem (f := (·.1)) hp⟩
theorem Led.own0 {prog : Program} {w : World} {Cn Ct : Addr} {μ : Mu} {own : Addr → Tag} {news : Led0} (D : Led prog w Cn Ct st μ own news) : Led prog w Cn Ct st μ (own0 own) news := by
  have S : Stp TV μ own news μ (Ov.own0 own) news := Stp.own0V
  have tg : ∀ {b t}, own b = t → t ≠ .ce → Ov.own0 own b = t := fun e h => (own0_of_ne (by rw [e]; exact h)).trans e
  refine ⟨D.nodup, D.nlen, fun i p hp => ?_, D.ll, fun i b xs hb hx => ?_, ?_, ?_, D.fl, D.pl⟩
  · obtain ⟨h1, h2, h3, es, n, h4, h5⟩ := D.nd i p hp
    exact ⟨tg h1 (by simp), tg h2 (by simp), h3, es, n, h4, h5.step S⟩
  · obtain ⟨h1, vs, n, h2, h3⟩ := D.ls i b xs hb hx
    exact ⟨tg h1 (by simp), vs, n, h2, h3.step S⟩
  · obtain ⟨h1, h2, h3, es, n, h4, h5⟩ := D.tr
    exact ⟨tg h1 (by simp), tg h2 (by simp), h3, es, n, h4, h5.step S⟩
  · obtain ⟨h1, h2, o', kvs, h3, h4, h5⟩ := D.dc
    exact ⟨tg h1 (by simp), h2, o', kvs, h3, h4, h5.step S⟩

/-- what a call leaves behind -/
theorem leave_all {μ μ' : Mu} {own own' : Addr → Tag} {news news' : Led0} {st' : St} (D : Led W.prog W.w W.Cn W.Ct st μ own news) (S : Stp TS μ (own0 own) news μ' own' news') (D' : Led W.prog W.w W.Cn W.Ct st' μ' own' news')
    {v : V} {cv : Value} (hv : VR μ' own' news' v cv) (hr : retOK st.lists.length st' v) :
    ∃ μ'' own'', Stp TA μ own news μ'' own'' news' ∧ Led W.prog W.w W.Cn W.Ct (leaveSt st.lists.length st') μ'' own'' news' ∧ VR μ'' own'' news' (leaveV st' v) cv ∧ (nl v = true → ∀ b, b ∉ news.map (·.1) → own'' b = own' b) := by
  have hn : st.lists.length ≤ st'.lists.length := by
    rw [← D.ll, ← D'.ll]
    cases hl : μ.ls.length with
    | zero => exact Nat.zero_le _
    | succ k =>
      obtain ⟨a, ha⟩ : ∃ a, μ.ls[k]? = some a := ⟨μ.ls[k]'(by omega), by simp [hl]⟩
      exact (List.getElem?_eq_some_iff.mp (S.ls k a ha)).1
  -- the tags behind
  have cI : ∀ b, own b = .ce → b ∈ news.map (·.1) → own' b = .it := fun b e hb => by
    obtain ⟨p, hp, rfl⟩ := List.mem_map.mp hb
    have e0 : Ov.own0 own p.1 = .it := if_pos e
    exact (S.fr p hp (by rw [e0]; rfl)).2.trans e0
  have t1 : ∀ b, own' b ≠ .it → own1 own own' news b = own' b := fun b h => if_neg fun z => h (cI b z.1 z.2)
  -- the general shape: one more address may turn to frozen
  have main : ∀ own2 : Addr → Tag, (∀ b, own' b ≠ .it → (∀ i, own' b = .ls i → i < st.lists.length) → own2 b = own' b) → (∀ p ∈ news, TA (own p.1) = true → own2 p.1 = own p.1) →
      Stp TA μ own news { μ' with ls := μ'.ls.take st.lists.length } own2 news' ∧ Led W.prog W.w W.Cn W.Ct (leaveSt st.lists.length st') { μ' with ls := μ'.ls.take st.lists.length } own2 news' ∧
      (∀ {x : V} {u : Value}, nl x = true → VR μ' own' news' x u → VR { μ' with ls := μ'.ls.take st.lists.length } own2 news' x u) := by
    intro own2 t2 k2
    have SV : Stp TV { μ' with ls := μ'.ls.take st.lists.length } own' news' { μ' with ls := μ'.ls.take st.lists.length } own2 news' :=
      ⟨fun _ _ h => h, fun _ _ h => h, rfl, rfl, fun p hp ht => ⟨hp, t2 p.1 (fun e => by rw [e] at ht; cases ht) (fun i e => by rw [e] at ht; cases ht)⟩, fun p hp => List.mem_map_of_mem (f := (·.1)) hp⟩
    have vr : ∀ {x : V} {u : Value}, nl x = true → VR μ' own' news' x u → VR { μ' with ls := μ'.ls.take st.lists.length } own2 news' x u := fun h1 h2 => (h2.anyLs _ h1).step SV
    have vrs : ∀ {x : List V} {u : List Value}, nls x = true → VRs μ' own' news' x u → VRs { μ' with ls := μ'.ls.take st.lists.length } own2 news' x u := fun h1 h2 => (h2.anyLs _ h1).step SV
    refine ⟨⟨S.nd, fun i a h => ?_, S.tr, S.dc, fun p hp ht => ?_, S.adr⟩, ?_, vr⟩
    · have hi : i < st.lists.length := by rw [← D.ll]; exact (List.getElem?_eq_some_iff.mp h).1
      show (μ'.ls.take st.lists.length)[i]? = some a
      rw [List.getElem?_take_of_lt hi]; exact S.ls i a h
    · refine ⟨?_, k2 p hp ht⟩
      by_cases e : own p.1 = .ce
      · exact (S.fr p hp (by show TS (if own p.1 = .ce then _ else _) = true; rw [if_pos e]; rfl)).1
      · refine (S.fr p hp ?_).1
        rw [own0_of_ne e]
        cases h : own p.1 <;> rw [h] at ht e <;> first | rfl | (exact absurd rfl e) | cases ht
    · refine ⟨D'.nodup, D'.nlen, fun i p hp => ?_, ?_, fun i b xs hb hx => ?_, ?_, ?_, ?_, D'.pl⟩
      · obtain ⟨h1, h2, h3, es, n, h4, h5⟩ := D'.nd i p hp
        refine ⟨(t2 _ (by rw [h1]; simp) (by rw [h1]; simp)).trans h1, (t2 _ (by rw [h2]; simp) (by rw [h2]; simp)).trans h2, h3, es, n, h4, h5.len, fun f => ?_⟩
        obtain ⟨u, a1, a2⟩ := h5.get f
        refine ⟨u, a1, vr ?_ a2⟩
        exact nl_nf
      · show (μ'.ls.take st.lists.length).length = (st'.lists.take st.lists.length).length
        rw [List.length_take, List.length_take, D'.ll]
      · have hb : (μ'.ls.take st.lists.length)[i]? = some b := hb
        have hx : (st'.lists.take st.lists.length)[i]? = some xs := hx
        have hi : i < st.lists.length := by
          have := (List.getElem?_eq_some_iff.mp hx).1
          rw [List.length_take] at this; omega
        rw [List.getElem?_take_of_lt hi] at hb hx
        obtain ⟨h1, vs, n, h2, h3⟩ := D'.ls i b xs hb hx
        exact ⟨(t2 _ (by rw [h1]; simp) (fun j e => by rw [h1] at e; cases e; exact hi)).trans h1, vs, n, h2, vrs (D'.fl _ (List.mem_of_getElem? hx)) h3⟩
      · obtain ⟨h1, h2, h3, es, n, h4, h5⟩ := D'.tr
        refine ⟨(t2 _ (by rw [h1]; simp) (by rw [h1]; simp)).trans h1, (t2 _ (by rw [h2]; simp) (by rw [h2]; simp)).trans h2, h3, es, n, h4, h5.len, fun f => ?_⟩
        obtain ⟨u, a1, a2⟩ := h5.get f
        refine ⟨u, a1, vr ?_ a2⟩
        exact nl_tf
      · obtain ⟨h1, h2, o', kvs, h3, h4, h5⟩ := D'.dc
        refine ⟨(t2 _ (by rw [h1]; simp) (by rw [h1]; simp)).trans h1, h2, o', kvs, h3, h4, ?_⟩
        have pl := D'.pl
        show Prs _ _ _ st'.places kvs
        clear h3 h4
        revert pl h5
        generalize st'.places = ps
        intro h5 pl
        induction h5 with
        | nil => exact .nil
        | cons h _ ih => exact .cons (vr (pl _ (.head _)) h) (ih fun p hp => pl p (.tail _ hp))
      · intro xs hx
        exact D'.fl xs (List.mem_of_mem_take hx)
  have kk : ∀ p ∈ news, TA (own p.1) = true → own1 own own' news p.1 = own p.1 := fun p hp ht => by
    by_cases e : own p.1 = .ce
    · have : own1 own own' news p.1 = .ce := if_pos ⟨e, List.mem_map_of_mem (f := (·.1)) hp⟩
      rw [this, e]
    · have : own1 own own' news p.1 = own' p.1 := if_neg fun z => e z.1
      rw [this]
      have h1 : TS (Ov.own0 own p.1) = true := by
        rw [own0_of_ne e]
        cases h : own p.1 <;> rw [h] at ht e <;> first | rfl | (exact absurd rfl e) | cases ht
      exact (S.fr p hp h1).2.trans (own0_of_ne e)
  by_cases hl : ∃ i, v = .list i
  · obtain ⟨i, rfl⟩ := hl
    obtain ⟨r1, r2⟩ := hr
    cases hv
    rename_i a ha
    obtain ⟨xs, hx⟩ : ∃ xs, st'.lists[i]? = some xs := ⟨st'.lists[i], by simp [r2]⟩
    obtain ⟨h1, vs, n, h2, h3⟩ := D'.ls i a xs ha hx
    have hfl := D'.fl _ (List.mem_of_getElem? hx)
    have e1 : ∀ p ∈ news, TA (own p.1) = true → p.1 ≠ a := fun p hp ht e => by
      have h4 : TS (Ov.own0 own p.1) = true := by
        unfold Ov.own0
        by_cases z : own p.1 = .ce
        · rw [if_pos z]; rfl
        · rw [if_neg z]; cases h : own p.1 <;> rw [h] at ht z <;> first | rfl | (exact absurd rfl z) | cases ht
      have h5 := (S.fr p hp h4).2
      rw [e, h1] at h5
      rw [← e] at h5
      rw [← h5] at h4
      cases h4
    obtain ⟨k1, k2, k3⟩ := main (ownAt (own1 own own' news) a .fz) (fun b hb hj => by
      have : b ≠ a := fun e => by rw [e] at hj; have := hj i h1; omega
      rw [ownAt_ne this]; exact t1 b hb) (fun p hp ht => by rw [ownAt_ne (e1 p hp ht)]; exact kk p hp ht)
    refine ⟨_, _, k1, k2, ?_, fun h => by cases h⟩
    show VR _ _ _ (.fl (st'.lists.getD i [])) _
    have hg : st'.lists.getD i [] = xs := by simp [List.getD, hx]
    rw [hg]
    have hxs : ∀ {ys : List V} {us : List Value}, nls ys = true → VRs μ' own' news' ys us → VRs { μ' with ls := μ'.ls.take st.lists.length } (ownAt (own1 own own' news) a .fz) news' ys us := by
      intro ys
      induction ys with
      | nil => intro us _ h; cases h; exact .nil
      | cons y r ih =>
        intro us hn h
        cases h with
        | cons h g =>
          simp only [nls, Bool.and_eq_true] at hn
          exact .cons (k3 hn.1 h) (ih hn.2 g)
    exact .fl h2 ownAt_self (hxs hfl h3)
  · have hnl : nl v = true := by
      cases v <;> first | exact hr | exact absurd ⟨_, rfl⟩ hl
    have e : leaveV st' v = v := by cases v <;> first | rfl | exact absurd ⟨_, rfl⟩ hl
    obtain ⟨k1, k2, k3⟩ := main (own1 own own' news) (fun b hb _ => t1 b hb) kk
    exact ⟨_, _, k1, k2, (by rw [e]; exact k3 hnl hv), fun _ b hb => if_neg fun z => hb z.2⟩
end
end
-- == M8
section
open PySem PySem.W PySem.Calls PyProof.Rows
set_option linter.unusedVariables false

structure FnAt (K : Frag) (f : Addr) (nm : Str) (params : Arguments) (body : List Stmt) (scope : Scope) : Prop where
  ex : ∃ doc pm cdv ct oc an od osl, K.lookup f = some ⟨oc, od, .func (fnOf nm nm params body scope .none .none doc pm an cdv ct), osl⟩ ∧ codeIn K cdv nm = true

/-- a def of the text keeps its word -/
noncomputable def Fn (W : Wc) (d : Nat) (nm : Str) (spec : FnSpec) : Prop :=
  ∃ f, FnOK W d f spec ∧ nsIn W.K mainGlobals nm = some (some (.ref f)) ∧ keepIn W.K (.ref f) = true

theorem mem_of_lookup {α β : Type} [BEq α] [LawfulBEq α] {x : α} {b : β} : ∀ {l : List (α × β)}, l.lookup x = some b → (x, b) ∈ l
  | [], h => by simp at h
  | (y, c) :: r, h => by
    rw [List.lookup_cons] at h
    by_cases e : x = y
    · subst e; simp at h; subst h; exact .head _
    · have : (x == y) = false := beq_eq_false_iff_ne.mpr e
      rw [this] at h
      exact .tail _ (mem_of_lookup h)

theorem lookup_zip_none {ns : List Str} {us : List Value} {x : Str} (h : x ∉ ns) : (ns.zip us).lookup x = none := by
  cases e : (ns.zip us).lookup x with
  | none => rfl
  | some v => exact absurd (List.of_mem_zip (mem_of_lookup e)).1 h
theorem lookup_zip_reverse {ns : List Str} (hnd : ns.Nodup) : ∀ {vs : List Value}, ∀ x, ((ns.zip vs).reverse.lookup x) = ((ns.zip vs).lookup x) := by
  induction ns with
  | nil => intro vs x; rfl
  | cons n r ih =>
    intro vs x
    cases vs with
    | nil => rfl
    | cons v us =>
      rw [List.nodup_cons] at hnd
      simp only [List.zip_cons_cons, List.reverse_cons, List.lookup_append, List.lookup_cons, List.lookup_nil]
      rw [ih hnd.2]
      by_cases h : x = n
      · subst h
        rw [lookup_zip_none hnd.1, beq_self_eq_true]; rfl
      · have : (x == n) = false := beq_eq_false_iff_ne.mpr h
        rw [this]
        cases (r.zip us).lookup x <;> rfl

section
variable {W : Wc} {c : Fc} {ρ : Env0} {st : St}

theorem VRs.zipLookup {μ : Mu} {own : Addr → Tag} {news : Led0} {ns : List Str} : ∀ {xs : List V} {vs : List Value}, VRs μ own news xs vs → ∀ x a, (ns.zip xs).lookup x = some a → ∃ v, (ns.zip vs).lookup x = some v ∧ VR μ own news a v := by
  induction ns with
  | nil => intro xs vs _ x a h; simp at h
  | cons n r ih =>
    intro xs vs hv x a h
    cases hv with
    | nil => simp at h
    | cons h1 h2 =>
      simp only [List.zip_cons_cons, List.lookup_cons] at h ⊢
      by_cases e : x = n
      · subst e
        simp at h ⊢
        subst h
        exact h1
      · have : (x == n) = false := beq_eq_false_iff_ne.mpr e
        simp only [this] at h ⊢
        exact ih h2 x a h

theorem args1 {P : List Value → Prop} (h : ∀ a, P [a]) : ∀ vs : List Value, vs.length = 1 → P vs
  | [_], _ => h _
theorem args2 {P : List Value → Prop} (h : ∀ a b, P [a, b]) : ∀ vs : List Value, vs.length = 2 → P vs
  | [_, _], _ => h _ _
theorem args3 {P : List Value → Prop} (h : ∀ a b c, P [a, b, c]) : ∀ vs : List Value, vs.length = 3 → P vs
  | [_, _, _], _ => h _ _ _
theorem args4 {P : List Value → Prop} (h : ∀ a b c d, P [a, b, c, d]) : ∀ vs : List Value, vs.length = 4 → P vs
  | [_, _, _, _], _ => h _ _ _ _
theorem FnOK.of_body {d : Nat} {f : Addr} {nm : Str} {params : Arguments} {body : List Stmt} {scope : Scope} {spec : FnSpec} {ns : List Str} (hf : FnAt W.K f nm params body scope)
    (hbind : ∀ doc pm an cdv ct, ∀ vs : List Value, vs.length = ns.length → bindArgs (fnOf nm nm params body scope .none .none doc pm an cdv ct) ⟨vs, []⟩ = pure (ns.zip vs))
    (hns : ns.Nodup) (hloc : ∀ x ∈ ns, scope.names.lookup x = some .local) (hsl : ∀ xs st Q, spec xs st Q → xs.length = ns.length)
    (h : ∀ (c : Fc) (st : St) (xs : List V) (Q : V → St → Prop), c.Ok W d → c.cs = scope → spec xs st Q → TriS W c body (ns.zip xs) st (LeaveQ st.lists.length Q))
    (hcell : ∀ x ∈ scope.names, x.2 ≠ .cell) (hco : scope.isCoroutine = false) (hgen : scope.isGenerator = false) (hk : scope.kind = .function) : FnOK W d f spec := by
  intro c st xs Q ok hs s μ own news m hR vs hv
  obtain ⟨doc, pm, cdv, ct, oc, an, od, osl, hl, hcd⟩ := hf.ex
  have hlen : vs.length = ns.length := hv.length.symm.trans (hsl xs st Q hs)
  refine wpAny_call ?_
  have XH : W.K.In s.heap := ok.X.keeps hR.F.keep
  refine callX_plain (cl := []) ok.B hR.F hR.N ok.T.nolimit ok.hA rfl ok.hk (XH _ _ hl) rfl (codeRec_of XH hcd) (by have := ok.dep; show c.A.depth < 1000; omega)
    (BindsTo.of_eq (hbind doc pm an cdv ct vs hlen)) (fun y hy => hloc _ (List.of_mem_zip hy).1) (fun g L' h₁ FG F' N' B' hst _ => ?_) hcell hco hgen hk
  let c' : Fc := { A := c.A.deeper (envX nm scope L' f cdv []), A₀ := c.A, base := c.base, h₀ := g, outer := c.env :: c.outer, cn := nm, cs := scope, L := L', a := f, ccd := cdv, cl := [] }
  have ok' : c'.Ok W d := ⟨B', Around.frames_deeper ok.hA, hk, ok.X.keeps hst, ok.T.keeps hst, ok.hh,
    by have := ok.dep; show c.A.depth + 1 + d ≤ 400; omega, by have := ok.uni; show c.A.units + 3 + 8 * d ≤ 1000; omega⟩
  have body := h c' st xs Q ok' rfl hs
  have R' : Rel W c' st μ (own0 own) news (fun y => (ns.zip vs).reverse.lookup y) { s with heap := h₁, toks := s.toks + (ns.zip vs).length } := ⟨F', N', hR.D.own0⟩
  have L0 : Loc c' (ns.zip xs) (fun y => (ns.zip vs).reverse.lookup y) μ (own0 own) news := by
    intro x a e
    obtain ⟨v, e1, e2⟩ := hv.zipLookup x a e
    refine ⟨fun _ => ⟨v, (lookup_zip_reverse hns x).trans e1, e2.step Stp.own0V⟩, fun k => ?_⟩
    exact absurd rfl (hcell _ (mem_of_lookup k))
  refine wpAny_mono (body _ μ (own0 own) news _ R' L0) (fun fl s' p => ?_) fun _ _ z => z.elim
  obtain ⟨fv, ρ', st', μ', own', news', m', S, R'', L'', r, e, q⟩ := p
  have fin : ∀ {v : V} {cv : Value}, VR μ' own' news' v cv → retOK st.lists.length st' v → Q (leaveV st' v) (leaveSt st.lists.length st') → LeaveK c.h₀ c.L m g (fun r s' => match r with | .ok (.ret v) => Post W c TA VR μ own news m s Q v s' | .ok _ => False | .error e => False) cv s' := by
    intro v cv hv' hr hq
    obtain ⟨μ2, own2, S2, D2, v2, -⟩ := leave_all hR.D S R''.D hv' hr
    exact leaveK_ R''.F R''.N fun kF kN => ⟨leaveV st' v, leaveSt st.lists.length st', μ2, own2, news', S2, ⟨kF, kN, D2⟩, v2, (Same.mk s _ _).trans e, hq⟩
  cases r with
  | next => exact fin .none rfl q
  | brk => exact q.elim
  | cont => exact q.elim
  | ret hv' => exact fin hv' q.1 q.2

theorem TriE_call {d : Nat} {nm : Str} {spec : FnSpec} {p p' : Pos} {e : Expr} {es : List Expr} {Q : V → St → Prop} (ok : c.Ok W (d + 1)) (H : Fn W d nm spec) (hk : c.cs.names.lookup nm = some .globalImplicit)
    (he : starEach (e :: es) c.env = (false, eval e c.env) :: starEach es c.env) (hp : (backTo p (starEach es c.env)).any (·.1) = false)
    (h : TriEs W c p (e :: es) ρ st fun xs st' => spec xs st' Q) (hd : (nm == ("__debug__" : Str)) = false := by decide)
    (hc : eval (.Call (.Name nm p') (e :: es) [] p) c.env = (do callWith p (← eval (.Name nm p') c.env) [] (backTo p (starEach (e :: es) c.env)) (backToKw p (keywordEach [] c.env))) := by rfl) :
    TriE W c (.Call (.Name nm p') (e :: es) [] p) ρ st Q := by
  obtain ⟨f, hf, hn, hkp⟩ := H
  intro s μ own news m hR hL
  refine Call_ (nameX_K hR.F ok.X ok.T hn ?_ ok.hk hk hd) hc
  refine callWith_K ok.X hkp (wpAny_then h hR hL fun vs s' xs st' μ' own' news' S R' L' r e' q => ⟨ok.X.keeps R'.F.keep, ?_⟩) he hp
  exact wpAny_mono (hf c st' xs Q ok q s' μ' own' news' m R' vs r) (fun _ _ p => p.after S e') fun _ _ x => x
end
end
-- == M9
section
open PySem PySem.W PySem.Calls PyProof.Rows
set_option linter.unusedVariables false

noncomputable def Sub (ρ ρ' : Env0) : Prop := ∀ x v, ρ.lookup x = some v → ρ'.lookup x = some v
theorem Sub.nil {ρ : Env0} : Sub [] ρ := fun _ _ h => by simp at h
theorem Sub.cons {ρ r : Env0} {x : Str} {v : V} (h : ρ.lookup x = some v) (g : Sub r ρ) : Sub ((x, v) :: r) ρ := by
  intro y u e
  rw [List.lookup_cons] at e
  by_cases q : y = x
  · subst q; rw [beq_self_eq_true] at e; rw [h]; exact e
  · rw [beq_eq_false_iff_ne.mpr q] at e; exact g y u e
theorem Sub.refl {ρ : Env0} : Sub ρ ρ := fun _ _ h => h

section
variable {W : Wc} {c : Fc} {ρ : Env0} {st : St}

theorem Loc.sub {ρ' : Env0} {m : Str → Option Value} {μ : Mu} {own : Addr → Tag} {news : Led0} (h : Loc c ρ' m μ own news) (s : Sub ρ ρ') : Loc c ρ m μ own news := fun x v e => h x v (s x v e)
theorem TriG.sub {ρ' : Env0} {t : Sem Flow} {Q : FV → Env0 → St → Prop} (s : Sub ρ ρ') (h : TriG W c t ρ st Q) : TriG W c t ρ' st Q := fun s' μ own news m hR hL => h s' μ own news m hR (hL.sub s)

inductive Next (I : Nat → Env0 → St → Prop) (n : Nat) (ρ : Env0) (st : St) : Prop
  | mk : ∀ k ρ2, k < n → Sub ρ2 ρ → I k ρ2 st → Next I n ρ st
@[reducible] noncomputable def WhQ (I : Nat → Env0 → St → Prop) (n : Nat) (Q : FV → Env0 → St → Prop) (f : FV) (ρ : Env0) (st : St) : Prop := match f with
  | .next | .cont => Next I n ρ st
  | .brk => Q .next ρ st
  | .ret v => Q (.ret v) ρ st
theorem TriX_while {t : Expr} {b : List Stmt} {p : Pos} {Q : FV → Env0 → St → Prop} (I : Nat → Env0 → St → Prop) (h0 : ∃ n ρ', Sub ρ' ρ ∧ I n ρ' st)
    (turn : ∀ n ρ st, I n ρ st → TriT W c t ρ st fun z st' => if z = true then TriS W c b ρ st' (WhQ I n Q) else Q .next ρ st') : TriX W c (.While t b [] p) ρ st Q := by
  intro s μ own news m hR hL
  obtain ⟨n, ρ₀, hsub, hI⟩ := h0
  refine wpAny_While (codeAny_whileLoop (fun n s' => ∃ ρ' st' μ' own' news' m', Stp TS μ own news μ' own' news' ∧ Rel W c st' μ' own' news' m' s' ∧ Loc c ρ' m' μ' own' news' ∧ Same s s' ∧ I n ρ' st') ?_ n
    ⟨ρ₀, st, μ, own, news, m, Stp.refl .., hR, hL.sub hsub, rfl, hI⟩)
  rintro n s₁ ⟨ρ₁, st₁, μ₁, own₁, news₁, m₁, S₁, R₁, L₁, e₁, hI₁⟩
  refine wpAny_mono (turn n ρ₁ st₁ hI₁ s₁ μ₁ own₁ news₁ m₁ R₁ L₁) (fun z s₂ p => ?_) fun _ _ x => x.elim
  obtain ⟨z', st₂, μ₂, own₂, news₂, S₂, R₂, r₂, e₂, q₂⟩ := p
  cases r₂
  cases z
  · simp only [Bool.false_eq_true, if_false] at q₂ ⊢
    exact wpAny_execs_nil ⟨.next, ρ₁, st₂, μ₂, own₂, news₂, m₁, S₁.trans S₂.AtoS, R₂, L₁.step S₂, .next, e₁.trans e₂, q₂⟩
  · simp only [if_true] at q₂ ⊢
    refine wpAny_mono (q₂ s₂ μ₂ own₂ news₂ m₁ R₂ (L₁.step S₂)) (fun f s₃ p => ?_) fun _ _ x => x.elim
    obtain ⟨fv, ρ₃, st₃, μ₃, own₃, news₃, m₃, S₃, R₃, L₃, r₃, e₃, q₃⟩ := p
    have S := S₁.trans (S₂.AtoS.trans S₃)
    have e := e₁.trans (e₂.trans e₃)
    cases r₃ with
    | next => obtain ⟨k, ρ2, hk, hs, hi⟩ := q₃; exact ⟨k, hk, ρ2, st₃, μ₃, own₃, news₃, m₃, S, R₃, L₃.sub hs, e, hi⟩
    | cont => obtain ⟨k, ρ2, hk, hs, hi⟩ := q₃; exact ⟨k, hk, ρ2, st₃, μ₃, own₃, news₃, m₃, S, R₃, L₃.sub hs, e, hi⟩
    | brk => exact ⟨.next, ρ₃, st₃, μ₃, own₃, news₃, m₃, S, R₃, L₃, .next, e, q₃⟩
    | ret hv => exact ⟨.ret _, ρ₃, st₃, μ₃, own₃, news₃, m₃, S, R₃, L₃, .ret hv, e, q₃⟩

/-- the turns of a for over values that stand fast -/
@[reducible] noncomputable def ForQ (F : Env0 → St → Prop) (Q : FV → Env0 → St → Prop) (f : FV) (ρ : Env0) (st : St) : Prop := match f with
  | .next | .cont => F ρ st
  | .brk => Q .next ρ st
  | .ret v => Q (.ret v) ρ st
noncomputable def ForT (W : Wc) (c : Fc) (x : Str) (b : List Stmt) : List V → Env0 → St → (FV → Env0 → St → Prop) → Prop
  | [], ρ, st, Q => Q .next ρ st
  | a :: r, ρ, st, Q => TriS W c b (setL ρ x a) st (ForQ (fun ρ st => ForT W c x b r ρ st Q) Q)

/-- an object that is no more than an iterator's is turned, or goes -/
theorem Led.chg {μ : Mu} {own : Addr → Tag} {news news' : Led0} {I : Addr} {prog : Program} {w : World} {Cn Ct : Addr} (D : Led prog w Cn Ct st μ own news) (hI : own I = .it) (h : ∀ p ∈ news, p.1 ≠ I → p ∈ news') (hn : (news'.map (·.1)).Nodup) :
    Led prog w Cn Ct st μ own news' := by
  have S : StV μ own news μ own news' := ⟨fun _ _ h => h, fun _ _ h => h, rfl, rfl, fun p hp ht => ⟨h p hp (fun e => by rw [e, hI] at ht; cases ht), rfl⟩⟩
  have ne : ∀ {b t}, own b = t → t ≠ .it → b ≠ I := fun e ht z => ht (by rw [← e, z, hI])
  refine ⟨hn, D.nlen, fun i p hp => ?_, D.ll, fun i b xs hb hx => ?_, ?_, ?_, D.fl, D.pl⟩
  · obtain ⟨h1, h2, h3, es, n, h4, h5⟩ := D.nd i p hp
    exact ⟨h1, h2, h _ h3 (ne h1 (by simp)), es, n, h _ h4 (ne h2 (by simp)), h5.stepv S⟩
  · obtain ⟨h1, vs, n, h2, h3⟩ := D.ls i b xs hb hx
    exact ⟨h1, vs, n, h _ h2 (ne h1 (by simp)), h3.stepv S⟩
  · obtain ⟨h1, h2, h3, es, n, h4, h5⟩ := D.tr
    exact ⟨h1, h2, h _ h3 (ne h1 (by simp)), es, n, h _ h4 (ne h2 (by simp)), h5.stepv S⟩
  · obtain ⟨h1, h2, o', kvs, h3, h4, h5⟩ := D.dc
    exact ⟨h1, h2, o', kvs, h _ h3 (ne h1 (by simp)), h4, h5.stepv S⟩
theorem Loc.chg {m : Str → Option Value} {μ : Mu} {own : Addr → Tag} {news news' : Led0} {I : Addr} (L : Loc c ρ m μ own news) (hI : own I = .it) (h : ∀ p ∈ news, p.1 ≠ I → p ∈ news') : Loc c ρ m μ own news' := by
  have S : StV μ own news μ own news' := ⟨fun _ _ h => h, fun _ _ h => h, rfl, rfl, fun p hp ht => ⟨h p hp (fun e => by rw [e, hI] at ht; cases ht), rfl⟩⟩
  intro x v e
  obtain ⟨a, b⟩ := L x v e
  refine ⟨fun k => let ⟨cv, h1, h2⟩ := a k; ⟨cv, h1, h2.stepv S⟩, fun k => ?_⟩
  obtain ⟨ca, o, h1, h2, h3, h4⟩ := b k
  exact ⟨ca, o, h1, h _ h2 (fun z => by have z : ca = I := z; rw [← z, h3] at hI; cases hI), h3, h4.stepv S⟩
theorem nodup_filter {news : Led0} {p : Addr × Obj → Bool} (h : (news.map (·.1)).Nodup) : ((news.filter p).map (·.1)).Nodup :=
  List.Sublist.nodup (List.Sublist.map _ List.filter_sublist) h

/-- what stands ahead of a for's turn -/
inductive ForI (W : Wc) (c : Fc) (x : Str) (b : List Stmt) (I : Addr) (fp : List Addr) (n : Nat) (Sx : Nat → Heap → Prop) (xs : List V) (Q : FV → Env0 → St → Prop) (s₀ : Shared) (μ₀ : Mu) (own₀ : Addr → Tag) (news₀ : Led0) (μ : Mu) (own : Addr → Tag) (news : Led0) (k : Nat) (s' : Shared) : Prop
  | mk (i : Nat) (ρ' : Env0) (st' : St) (μ' : Mu) (own' : Addr → Tag) (news' : Led0) (m' : Str → Option Value) (hk : k = n + 1 - i) (hi : i ≤ n) (S : Stp TS μ₀ own₀ news₀ μ' own' news') (V : Stp TV μ own news μ' own' news')
      (R : Rel W c st' μ' own' news' m' s') (L : Loc c ρ' m' μ' own' news') (e : Same s₀ s') (hs : Sx i s'.heap) (hI : own' I = .it) (hm : ∀ a ∈ fp, ∃ o, (a, o) ∈ news' ∧ TS (own' a) = true) (t : ForT W c x b (xs.drop i) ρ' st' Q) :
      ForI W c x b I fp n Sx xs Q s₀ μ₀ own₀ news₀ μ own news k s'
theorem For_walk {d : Nat} {x : Str} {px : Pos} {b : List Stmt} {I : Addr} {fp : List Addr} {n : Nat} {P : Nat → Value → Prop} {Sx : Nat → Heap → Prop} {xs : List V} {Q : FV → Env0 → St → Prop}
    {s : Shared} {μ : Mu} {own : Addr → Tag} {news : Led0} {m : Str → Option Value} {s₀ : Shared} {μ₀ : Mu} {own₀ : Addr → Tag} {news₀ : Led0}
    (ok : c.Ok W d) (hx : c.cs.names.lookup x = some .local) (K : Walks W.prog W.w c.A I fp [I] n P Sx) (hsome : ∀ i h, Sx i h → ∀ a ∈ fp, ∃ o, h.get? a = some o)
    (hn : xs.length = n) (hP : ∀ i v, P i v → ∀ μ' own' news', Stp TV μ own news μ' own' news' → ∀ a, xs[i]? = some a → VR μ' own' news' a v)
    (hst : Sx 0 s.heap) (hI : own I = .it) (hmem : ∀ a ∈ fp, ∃ o, (a, o) ∈ news ∧ TS (own a) = true)
    (S₀ : Stp TS μ₀ own₀ news₀ μ own news) (hI₀ : ∀ p ∈ news₀, p.1 ≠ I) (e₀ : Same s₀ s)
    (hR : Rel W c st μ own news m s) (hL : Loc c ρ m μ own news) (turns : ForT W c x b xs ρ st Q) :
    codeAny (model W.prog W.w) c.A (.forLoop (.Name x px) (.ref I) b [] c.env) (fun r s' => match r with | .ok f => PostS W c μ₀ own₀ news₀ s₀ Q f s' | .error _ => False) s := by
  refine codeAny_forLoop (ForI W c x b I fp n Sx xs Q s₀ μ₀ own₀ news₀ μ own news) ?_ (n + 1)
    (.mk 0 ρ st μ own news m rfl (Nat.zero_le _) S₀ (Stp.refl ..) hR hL e₀ hst hI hmem turns)
  rintro k s₁ ⟨i, ρ₁, st₁, μ₁, own₁, news₁, m₁, rfl, hi, S₁, V₁, R₁, L₁, e₁, st₁', hI₁, hm₁, t₁⟩
  have hIfp : I ∈ fp := K.sub I (.head _)
  obtain ⟨oI, hoI, _⟩ := hm₁ I hIfp
  have zI := R₁.N _ hoI
  by_cases hlt : i < n
  · refine K.item i s₁ _ _ hlt st₁' fun v h' tk hPv hst' hk => ?_
    obtain ⟨oI', hoI'⟩ := hsome _ _ hst' I hIfp
    obtain ⟨news₂, U, k1, k2, k3⟩ := upd_of_mem (o' := oI') hoI R₁.D.nodup
    have keep : ∀ a o, a ≠ I → s₁.heap.get? a = some o → h'.get? a = some o := fun a o hne e => hk a o (by simpa using hne) e
    have N₂ : News c.h₀ c.L h' news₂ := by
      obtain ⟨pre, post, q1, q2, q3, q4⟩ := U.split
      subst q1 q2
      intro p hp
      rcases List.mem_append.mp hp with hp | hp
      · have z := R₁.N p (List.mem_append_left _ hp)
        exact ⟨keep _ _ (q3 p hp) z.1, z.2⟩
      · rcases List.mem_cons.mp hp with rfl | hp
        · exact ⟨hoI', zI.2⟩
        · have z := R₁.N p (List.mem_append_right _ (.tail _ hp))
          exact ⟨keep _ _ (q4 p hp) z.1, z.2⟩
    have F₂ : Fr c.h₀ c.L h' m₁ := by
      obtain ⟨oL, a1, a2, hoL, a3⟩ := R₁.F.ns
      refine ⟨⟨oL, a1, a2, keep _ _ (Ne.symm zI.2.1) hoL, a3⟩, fun a o e => keep a o ?_ (R₁.F.keep a o e), R₁.F.above⟩
      rintro rfl
      rw [zI.2.2] at e; cases e
    have V₂ : Stp TV μ₁ own₁ news₁ μ₁ own₁ news₂ := Stp.upd k1 k3 (by rw [hI₁]; rfl)
    have S₂ : Stp TS μ₀ own₀ news₀ μ₁ own₁ news₂ := ⟨S₁.nd, S₁.ls, S₁.tr, S₁.dc, fun p hp ht => ⟨k1 p (S₁.fr p hp ht).1 (hI₀ p hp), (S₁.fr p hp ht).2⟩, fun p hp => by rw [k3]; exact S₁.adr p hp⟩
    have R₂ : Rel W c st₁ μ₁ own₁ news₂ m₁ { s₁ with heap := h', toks := tk } := ⟨F₂, N₂, R₁.D.chg hI₁ k1 (k3 ▸ R₁.D.nodup)⟩
    have L₂ := L₁.chg hI₁ k1
    obtain ⟨a, ha⟩ : ∃ a, xs[i]? = some a := ⟨xs[i]'(hn ▸ hlt), List.getElem?_eq_getElem _⟩
    have hv : VR μ₁ own₁ news₂ a v := hP i v hPv _ _ _ (V₁.trans V₂) a ha
    have hd : xs.drop i = a :: xs.drop (i + 1) := by
      obtain ⟨q1, q2⟩ := List.getElem?_eq_some_iff.mp ha
      rw [List.drop_eq_getElem_cons q1, q2]
    rw [hd] at t₁
    refine wpAny_assign_Name (wpAny_mono (store_V ok hx R₂ L₂ hv fun s₃ m₃ R₃ L₃ e₃ => ?_) (fun _ _ z => z) fun _ _ z => z.elim)
    have hs3 : s₃.heap.get? I = some oI' := (R₃.N _ k2).1
    refine wpAny_mono (t₁ s₃ μ₁ own₁ news₂ m₃ R₃ L₃) (fun f s₄ p => ?_) fun _ _ x => x.elim
    obtain ⟨fv, ρ₄, st₄, μ₄, own₄, news₄, m₄, S₄, R₄, L₄, r₄, e₄, q₄⟩ := p
    have e := e₁.trans ((Same.mk s₁ h' tk).trans (e₃.trans e₄))
    have nextcase : ForT W c x b (xs.drop (i + 1)) ρ₄ st₄ Q → ∃ m, m < n + 1 - i ∧ ForI W c x b I fp n Sx xs Q s₀ μ₀ own₀ news₀ μ own news m s₄ := by
      intro q
      have hm₂ : ∀ a ∈ fp, ∃ o, (a, o) ∈ news₂ ∧ TS (own₁ a) = true := fun a ha' => by
        by_cases z : a = I
        · subst z; exact ⟨oI', k2, by rw [hI₁]; rfl⟩
        · obtain ⟨o, h1, h2⟩ := hm₁ a ha'
          exact ⟨o, k1 _ h1 z, h2⟩
      refine ⟨n + 1 - (i + 1), Nat.sub_lt_sub_left (Nat.lt_succ_of_lt hlt) (Nat.lt_succ_self i), .mk (i + 1) ρ₄ st₄ μ₄ own₄ news₄ m₄ rfl hlt (S₂.trans S₄) ((V₁.trans V₂).trans (S₄.toV rfl)) R₄ L₄ e ?_ ?_ ?_ q⟩
      · refine K.frame (i + 1) h' s₄.heap hst' fun a ha' o ho => ?_
        obtain ⟨o', h1, h2⟩ := hm₂ a ha'
        have h3 := (N₂ _ h1).1
        have h4 : o' = o := Option.some.inj (h3.symm.trans ho)
        subst h4
        exact (R₄.N _ (S₄.fr _ h1 h2).1).1
      · obtain ⟨o', h1, h2⟩ := hm₂ I hIfp
        exact (S₄.fr _ h1 h2).2.trans hI₁
      · intro a ha'
        obtain ⟨o', h1, h2⟩ := hm₂ a ha'
        exact ⟨o', (S₄.fr _ h1 h2).1, (congrArg TS (S₄.fr _ h1 h2).2).trans h2⟩
    cases r₄ with
    | next => exact nextcase q₄
    | cont => exact nextcase q₄
    | brk => exact ⟨.next, ρ₄, st₄, μ₄, own₄, news₄, m₄, S₂.trans S₄, R₄, L₄, .next, e, q₄⟩
    | ret hv' => exact ⟨.ret _, ρ₄, st₄, μ₄, own₄, news₄, m₄, S₂.trans S₄, R₄, L₄, .ret hv', e, q₄⟩
  · have hin : i = n := Nat.le_antisymm hi (Nat.not_lt.mp hlt)
    subst hin
    refine K.done s₁ _ _ st₁' fun h' tk hk => ?_
    have keep : ∀ a o, a ≠ I → s₁.heap.get? a = some o → h'.get? a = some o := fun a o hne e => hk a o (by simpa using hne) e
    let news₂ := news₁.filter (fun p => p.1 != I)
    have k1 : ∀ p ∈ news₁, p.1 ≠ I → p ∈ news₂ := fun p hp hne => List.mem_filter.mpr ⟨hp, by simpa using hne⟩
    have N₂ : News c.h₀ c.L h' news₂ := fun p hp => by
      obtain ⟨h1, h2⟩ := List.mem_filter.mp hp
      have z := R₁.N p h1
      exact ⟨keep _ _ (by simpa using h2) z.1, z.2⟩
    have F₂ : Fr c.h₀ c.L h' m₁ := by
      obtain ⟨oL, a1, a2, hoL, a3⟩ := R₁.F.ns
      refine ⟨⟨oL, a1, a2, keep _ _ (Ne.symm zI.2.1) hoL, a3⟩, fun a o e => keep a o ?_ (R₁.F.keep a o e), R₁.F.above⟩
      rintro rfl
      rw [zI.2.2] at e; cases e
    have S₂ : Stp TS μ₀ own₀ news₀ μ₁ own₁ news₂ := ⟨S₁.nd, S₁.ls, S₁.tr, S₁.dc, fun p hp ht => ⟨k1 p (S₁.fr p hp ht).1 (hI₀ p hp), (S₁.fr p hp ht).2⟩, fun p hp => by
      obtain ⟨q, hq, e⟩ := List.mem_map.mp (S₁.adr p hp)
      rw [← e]
      exact List.mem_map_of_mem (f := (·.1)) (k1 q hq (by rw [e]; exact hI₀ p hp))⟩
    have hd : xs.drop i = [] := List.drop_eq_nil_of_le (Nat.le_of_eq hn)
    rw [hd] at t₁
    exact wpAny_execs_nil ⟨.next, ρ₁, st₁, μ₁, own₁, news₂, m₁, S₂, ⟨F₂, N₂, R₁.D.chg hI₁ k1 (nodup_filter R₁.D.nodup)⟩, L₁.chg hI₁ k1, .next, e₁.trans (Same.mk s₁ h' tk), t₁⟩
end
end
-- == M10
section
open PySem PySem.W PySem.Calls PyProof.Rows
set_option linter.unusedVariables false
section
variable {W : Wc} {c : Fc} {ρ : Env0} {st : St}

theorem VRs.getV {μ : Mu} {own : Addr → Tag} {news : Led0} : ∀ {xs : List V} {vs : List Value}, VRs μ own news xs vs → ∀ {i : Nat} {v : Value} {a : V}, vs[i]? = some v → xs[i]? = some a → VR μ own news a v := by
  intro xs
  induction xs with
  | nil => intro vs _ i v a _ h; simp at h
  | cons x r ih =>
    intro vs h i v a hv ha
    cases h with
    | cons h1 h2 =>
      cases i with
      | zero => simp at hv ha; subst hv ha; exact h1
      | succ i => simp at hv ha; exact ih h2 hv ha

/-- the loop behind its head: the iterator is the newest object -/
theorem For_fresh {d : Nat} {x : Str} {px : Pos} {b : List Stmt} {oI : Obj} {fp : List Addr} {n : Nat} {P : Nat → Value → Prop} {Sx : Nat → Heap → Prop} {xs : List V} {Q : FV → Env0 → St → Prop}
    {s : Shared} {μ : Mu} {own : Addr → Tag} {news : Led0} {m : Str → Option Value} {s₀ : Shared} {μ₀ : Mu} {own₀ : Addr → Tag} {news₀ : Led0}
    (ok : c.Ok W d) (hx : c.cs.names.lookup x = some .local) (K : Walks W.prog W.w c.A s.heap.objs.size (s.heap.objs.size :: fp) [s.heap.objs.size] n P Sx) (hsome : ∀ i h, Sx i h → ∀ a ∈ s.heap.objs.size :: fp, ∃ o, h.get? a = some o)
    (hn : xs.length = n) (hP : ∀ i v, P i v → ∀ μ' own' news', Stp TV μ own news μ' own' news' → ∀ a, xs[i]? = some a → VR μ' own' news' a v)
    (hfree : oI.isFreed = false) (hst : Sx 0 (s.heap.push oI)) (hmem : ∀ a ∈ fp, ∃ o, (a, o) ∈ news ∧ TS (own a) = true)
    (S₀ : Stp TS μ₀ own₀ news₀ μ own news) (e₀ : Same s₀ s)
    (hR : Rel W c st μ own news m s) (hL : Loc c ρ m μ own news) (turns : ForT W c x b xs ρ st Q) (hR₀ : ∀ p ∈ news₀, p.1 < s.heap.objs.size) :
    codeAny (model W.prog W.w) c.A (.forLoop (.Name x px) (.ref s.heap.objs.size) b [] c.env) (fun r s' => match r with | .ok f => PostS W c μ₀ own₀ news₀ s₀ Q f s' | .error e => cameBackBy (model W.prog W.w) c.A c.env (fun _ _ => False) e s') { s with heap := s.heap.push oI } := by
  have hf := hR.fresh
  have S : Stp TA μ own news μ (ownAt own s.heap.objs.size .it) ((s.heap.objs.size, oI) :: news) := Stp.grow hf
  refine codeAny_mono (For_walk (μ := μ) (own := ownAt own s.heap.objs.size .it) (news := (s.heap.objs.size, oI) :: news) (m := m) (xs := xs) (μ₀ := μ₀) (own₀ := own₀) (news₀ := news₀) (s₀ := s₀) (Q := Q) (st := st) (ρ := ρ) ok hx K hsome hn (fun i v h μ' own' news' S' a ha => hP i v h _ _ _ ((S.toV rfl).trans S') a ha) hst ownAt_self (fun a ha => ?_)
    (S₀.trans S.AtoS) (fun p hp => Nat.ne_of_lt (hR₀ p hp)) (e₀.trans rfl) ⟨hR.F.push _, hR.N.push hR.F _ hfree, hR.D.grow hf⟩ (hL.step S) turns) fun r s' h => ?_
  · rcases List.mem_cons.mp ha with rfl | ha
    · exact ⟨oI, .head _, by rw [ownAt_self]; rfl⟩
    · obtain ⟨o, h1, h2⟩ := hmem a ha
      exact ⟨o, .tail _ h1, by rw [ownAt_ne (hf _ h1)]; exact h2⟩
  · cases r with
    | ok f => exact h
    | error e => exact h.elim

theorem Stp.below {T : Tag → Bool} {μ₀ μ : Mu} {own₀ own : Addr → Tag} {news₀ news : Led0} {m : Str → Option Value} {s : Shared} (S : Stp T μ₀ own₀ news₀ μ own news) (h : Rel W c st μ own news m s) : ∀ p ∈ news₀, p.1 < s.heap.objs.size := fun p hp => by
  obtain ⟨q, hq, e⟩ := List.mem_map.mp (S.adr p hp)
  rw [← e]
  exact Heap.lt_size (h.N q hq).1

theorem For_seq {d : Nat} {x : Str} {px : Pos} {b : List Stmt} {xs : List V} {Q : FV → Env0 → St → Prop} {a : V} {va : Value}
    {s : Shared} {μ : Mu} {own : Addr → Tag} {news : Led0} {m : Str → Option Value} {s₀ : Shared} {μ₀ : Mu} {own₀ : Addr → Tag} {news₀ : Led0}
    (ok : c.Ok W d) (hx : c.cs.names.lookup x = some .local) (ha : VR μ own news a va) (hxs : a = .fl xs ∨ a = .tup xs)
    (S₀ : Stp TS μ₀ own₀ news₀ μ own news) (e₀ : Same s₀ s) (hR : Rel W c st μ own news m s) (hL : Loc c ρ m μ own news) (turns : ForT W c x b xs ρ st Q) (hR₀ : ∀ p ∈ news₀, p.1 < s.heap.objs.size) :
    wpAny (model W.prog W.w) c.A (pyIter va) (fun it s₂ => codeAny (model W.prog W.w) c.A (.forLoop (.Name x px) it b [] c.env) (fun r s' => match r with | .ok f => PostS W c μ₀ own₀ news₀ s₀ Q f s' | .error e => cameBackBy (model W.prog W.w) c.A c.env (fun _ _ => False) e s') s₂) (fun _ _ => False) s := by
  rcases hxs with rfl | rfl
  · cases ha
    rename_i l vs n h1 h2 h3
    have z := hR.N _ h1
    have hl : s.heap.IsList l vs.toArray := ⟨_, z.1, rfl, n, rfl⟩
    have hne : l ≠ s.heap.objs.size := Nat.ne_of_lt (Heap.lt_size z.1)
    refine wpAny_pyIter_list hl ?_
    refine For_fresh (fp := [l]) (n := vs.toArray.size) (xs := xs) (μ := μ) (own := own) (news := news) (m := m) (st := st) (ρ := ρ) ok hx (Walks.list ok.hh s.heap.objs.size l hne vs.toArray) ?_ (by simpa using h3.length) (fun i v hv μ' own' news' S' a ha => ?_) rfl
      ⟨⟨_, Heap.get?_push_size _ rfl, rfl, rfl⟩, hl.push _⟩ (fun a ha => ?_) S₀ e₀ hR hL turns hR₀
    · rintro i h ⟨⟨o, h1, _⟩, ⟨o', h2, _⟩⟩ a ha
      rcases List.mem_cons.mp ha with rfl | ha
      · exact ⟨o, h1⟩
      · rw [List.mem_singleton.mp ha]; exact ⟨o', h2⟩
    · exact (h3.step S').getV (by simpa using hv) ha
    · rw [List.mem_singleton.mp ha]; exact ⟨_, h1, by rw [h2]; rfl⟩
  · cases ha
    rename_i l vs n h1 h2 h3
    have z := hR.N _ h1
    have hl : IsTup s.heap l vs.toArray := ⟨_, z.1, rfl, n, rfl⟩
    have hne : l ≠ s.heap.objs.size := Nat.ne_of_lt (Heap.lt_size z.1)
    refine iter_tuple hl ?_
    refine For_fresh (fp := [l]) (n := vs.toArray.size) (xs := xs) (μ := μ) (own := own) (news := news) (m := m) (st := st) (ρ := ρ) ok hx (Walks.tuple ok.hh s.heap.objs.size l hne vs.toArray) ?_ (by simpa using h3.length) (fun i v hv μ' own' news' S' a ha => ?_) rfl
      ⟨⟨_, Heap.get?_push_size _ rfl, rfl, rfl⟩, ⟨_, Heap.get?_push_of_some _ z.1, rfl, n, rfl⟩⟩ (fun a ha => ?_) S₀ e₀ hR hL turns hR₀
    · rintro i h ⟨⟨o, h1, _⟩, ⟨o', h2, _⟩⟩ a ha
      rcases List.mem_cons.mp ha with rfl | ha
      · exact ⟨o, h1⟩
      · rw [List.mem_singleton.mp ha]; exact ⟨o', h2⟩
    · exact (h3.step S').getV (by simpa using hv) ha
    · rw [List.mem_singleton.mp ha]; exact ⟨_, h1, by rw [h2]; rfl⟩

theorem TriX_for {d : Nat} {x : Str} {px p : Pos} {it : Expr} {b : List Stmt} {Q : FV → Env0 → St → Prop} (ok : c.Ok W d) (hx : c.cs.names.lookup x = some .local) (hs : ∀ v, foldedSetIterable it c.env v = pure v)
    (h : TriE W c it ρ st fun a st' => ∃ xs, (a = .fl xs ∨ a = .tup xs) ∧ ForT W c x b xs ρ st' Q) : TriX W c (.For (.Name x px) it b [] p) ρ st Q := by
  intro s μ own news m hR hL
  refine wpAny_For ?_ hs
  have hsz : wpAny (model W.prog W.w) c.A (eval it c.env) (Post W c TA VR μ own news m s fun a st' => ∃ xs, (a = .fl xs ∨ a = .tup xs) ∧ ForT W c x b xs ρ st' Q) (fun _ _ => False) s := h s μ own news m hR hL
  refine wpAny_mono hsz (fun va s' p => ?_) fun _ _ x => x
  obtain ⟨a, st', μ', own', news', S, R', r, e, xs, hxs, turns⟩ := p
  exact For_seq ok hx r hxs S.AtoS e R' (hL.step S) turns (S.below R')

noncomputable def rangeV (n : Nat) : List V := (List.range n).map fun (i : Nat) => V.int (i : Int)
theorem TriX_forRange {d : Nat} {x : Str} {px p p' p'' : Pos} {e : Expr} {b : List Stmt} {Q : FV → Env0 → St → Prop} (ok : c.Ok W d) (hx : c.cs.names.lookup x = some .local) (hk : c.cs.names.lookup (Str.ofString "range") = some .globalImplicit)
    (hK : nsIn W.K mainGlobals (Str.ofString "range") = some none) (hb : bootBuiltins (Str.ofString "range") = some (.type "range"))
    (he : starEach [e] c.env = (false, eval e c.env) :: starEach [] c.env)
    (h : TriE W c e ρ st fun a st' => ∃ n : Nat, a = .int n ∧ n ≤ 1000 ∧ ForT W c x b (rangeV n) ρ st' Q) : TriX W c (.For (.Name x px) (.Call (.Name (Str.ofString "range") p') [e] [] p'') b [] p) ρ st Q := by
  intro s μ own news m hR hL
  refine wpAny_For ?_ (fun v => rfl)
  refine Call_ (nameX_B hR.F ok.X ok.T hK hb (by decide) ?_ ok.hk hk) rfl
  refine Pv.callWith_type1 ?_ he rfl
  have hargs : TriEs W c p'' [e] ρ st fun xs st' => ∃ n : Nat, xs = [.int n] ∧ n ≤ 1000 ∧ ForT W c x b (rangeV n) ρ st' Q :=
    TriEs_cons he (h.mono fun a st' ⟨n, hn, hq⟩ => TriEs_nil ⟨n, by rw [hn], hq⟩)
  refine wpAny_then hargs hR hL fun vs s' xs st' μ' own' news' S R' L' r e' q => ?_
  obtain ⟨n, rfl, hn, turns⟩ := q
  cases r with
  | cons h1 h2 =>
  cases h1
  cases h2
  rename_i tk0
  refine range1_rows R'.F R'.N fun h' tk t₁ u₁ v₁ hr F' N' hk' => ?_
  have hsize : Builtin.Range.rangeSize 0 (n : Int) 1 = (n : Int) := by
    unfold Builtin.Range.rangeSize
    rw [if_pos (by decide)]
    split
    · rw [Int.ediv_one]; omega
    · omega
  have hsmall : Builtin.Range.small 0 (n : Int) 1 = true := by
    unfold Builtin.Range.small
    rw [hsize]
    unfold Builtin.Range.rangeFitsLong
    have h1 : (-(2 : Int) ^ 63 ≤ (n : Int) && (n : Int) < 2 ^ 63) = true := by
      rw [Bool.and_eq_true, decide_eq_true_eq, decide_eq_true_eq]; omega
    have h2 : (-(2 : Int) ^ 63 ≤ (n : Int) + (1 - 1) && (n : Int) + (1 - 1) < 2 ^ 63) = true := by
      rw [Bool.and_eq_true, decide_eq_true_eq, decide_eq_true_eq]; omega
    rw [h1, if_pos (show (1 : Int) > 0 by decide), h2]
    simp
  refine wpAny_pyIter_range (s := { s' with heap := h', toks := tk }) hr hsmall ?_
  refine For_fresh (s := { s' with heap := h', toks := tk }) (fp := []) (n := n) (xs := rangeV n) (μ := μ') (own := own') (news := news') (m := m) (st := st') (ρ := ρ) ok hx (Walks.range ok.hh h'.objs.size 0 1 n) ?_ (by simp [rangeV]) (fun i v hv μ2 own2 news2 S2 a ha => ?_) rfl ?_ (fun a ha => by cases ha)
    S.AtoS (e'.trans rfl) ⟨F', N', R'.D⟩ L' turns (S.below (s := { s' with heap := h', toks := tk }) ⟨F', N', R'.D⟩)
  · rintro i h h1 a ha
    rw [List.mem_singleton.mp ha]; exact ⟨_, h1⟩
  · obtain ⟨t, rfl⟩ := hv
    have hi : i < n := by have := (List.getElem?_eq_some_iff.mp ha).1; simpa [rangeV] using this
    simp [rangeV, hi] at ha
    subst ha
    have : (0 : Int) + i * 1 = i := by omega
    rw [this]; exact .int _ _
  · rw [hsize]
    simpa using Heap.get?_push_size _ rfl
end
end
-- == M11
section
open PySem PySem.W PySem.Calls PyProof.Rows
set_option linter.unusedVariables false

theorem get?_append_addr {α : Type} {l : List α} {i : Nat} {a : α} (h : l[i]? = some a) : i < l.length := (List.getElem?_eq_some_iff.mp h).1

section
variable {W : Wc} {c : Fc} {ρ : Env0} {st : St}

/-- the method of a tracked list -/
theorem listMethod {name : Str} {id : String} {i : Nat} {va : Value} {pl : Sem Bool} {Z : Value × List Value → Shared → Prop} {s : Shared} {μ : Mu} {own : Addr → Tag} {news : Led0} {m : Str → Option Value} {xs : List V}
    (hR : Rel W c st μ own news m s) (hv : VR μ own news (.list i) va) (hx : st.lists[i]? = some xs) (slot : Slot "list" name id) (hty : typeOf (.builtin id) = pure (.type "method_descriptor"))
    (h : Z (.builtin id, [va]) s) : wpAny (model W.prog W.w) c.A (getMethod va name pl) Z (fun _ _ => False) s := by
  cases hv
  rename_i a ha
  obtain ⟨h1, vs, n, h2, h3⟩ := hR.D.ls i a xs ha hx
  exact kl_method hR.N h2 slot hty h

theorem append_V {i : Nat} {va vx : Value} {x : V} {xs : List V} {Q : V → St → Prop} {s : Shared} {μ : Mu} {own : Addr → Tag} {news : Led0} {m : Str → Option Value}
    (hR : Rel W c st μ own news m s) (hv : VR μ own news (.list i) va) (hx : st.lists[i]? = some xs) (hy : VR μ own news x vx) (hn : nl x = true) (hz : xs.length ≤ 1000) (hq : Q .none (st.setL i (xs ++ [x]))) :
    wpAny (model W.prog W.w) c.A (call (.builtin "list.append") [va, vx]) (Post W c TA VR μ own news m s Q) (fun _ _ => False) s := by
  cases hv
  rename_i a ha
  obtain ⟨h1, vs, n, h2, h3⟩ := hR.D.ls i a xs ha hx
  obtain ⟨news', U, k1, k2, k3⟩ := upd_of_mem (o' := listOf (vs ++ [vx]).toArray (n + 1)) h2 hR.D.nodup
  have e : listOf (vs ++ [vx]).toArray (n + 1) = listOf (vs.toArray.push vx) (n + 1) := by simp
  have U' := U
  rw [e] at U'
  have hfl := hR.D.fl _ (List.mem_of_getElem? hx)
  refine append_K hR.F hR.N U' (fun h' F' N' => ?_) (by rw [sizeLine_eq, List.size_toArray, ← h3.length]; omega)
  exact ⟨.none, st.setL i (xs ++ [x]), μ, own, news', Stp.upd k1 k3 (by rw [h1]; rfl), ⟨F', N', hR.D.setL ha h1 (h3.append (.cons hy .nil)) (by rw [nls_append, hfl]; simp [nls, hn]) k1 k2 k3⟩, .none, rfl, hq⟩

theorem pop_V {i : Nat} {va : Value} {x : V} {xs : List V} {Q : V → St → Prop} {s : Shared} {μ : Mu} {own : Addr → Tag} {news : Led0} {m : Str → Option Value}
    (hR : Rel W c st μ own news m s) (hv : VR μ own news (.list i) va) (hx : st.lists[i]? = some (xs ++ [x])) (hz : xs.length ≤ 1000) (hq : Q x (st.setL i xs)) :
    wpAny (model W.prog W.w) c.A (call (.builtin "list.pop") [va]) (Post W c TA VR μ own news m s Q) (fun _ _ => False) s := by
  cases hv
  rename_i a ha
  obtain ⟨h1, vs, n, h2, h3⟩ := hR.D.ls i a _ ha hx
  obtain ⟨us, u, rfl, h4, h5⟩ := h3.snoc
  obtain ⟨news', U, k1, k2, k3⟩ := upd_of_mem (o' := listOf us.toArray (n + 1)) h2 hR.D.nodup
  have hfl := hR.D.fl _ (List.mem_of_getElem? hx)
  rw [nls_append, Bool.and_eq_true] at hfl
  have S : Stp TA μ own news μ own news' := Stp.upd k1 k3 (by rw [h1]; rfl)
  refine kl_pop hR.F hR.N (by simpa using kpa_last u us) U (by rw [sizeLine_eq]; simp [← h4.length]; omega) fun h' F' N' => ?_
  exact ⟨x, st.setL i xs, μ, own, news', S, ⟨F', N', hR.D.setL ha h1 h4 hfl.1 k1 k2 k3⟩, h5.step S, rfl, hq⟩

theorem extend_V {i : Nat} {va vb : Value} {xs ys : List V} {Q : V → St → Prop} {s : Shared} {μ : Mu} {own : Addr → Tag} {news : Led0} {m : Str → Option Value}
    (hR : Rel W c st μ own news m s) (hv : VR μ own news (.list i) va) (hx : st.lists[i]? = some xs) (hy : VR μ own news (.fl ys) vb) (hn : nls ys = true) (hy0 : ys ≠ []) (hz : xs.length ≤ 1000) (hz2 : ys.length ≤ 1000) (hq : Q .none (st.setL i (xs ++ ys))) :
    wpAny (model W.prog W.w) c.A (call (.builtin "list.extend") [va, vb]) (Post W c TA VR μ own news m s Q) (fun _ _ => False) s := by
  cases hv
  rename_i a ha
  cases hy
  rename_i b us nb g1 g2 g3
  obtain ⟨h1, vs, n, h2, h3⟩ := hR.D.ls i a xs ha hx
  obtain ⟨news', U, k1, k2, k3⟩ := upd_of_mem (o' := listOf (vs ++ us).toArray (n + 1)) h2 hR.D.nodup
  have hfl := hR.D.fl _ (List.mem_of_getElem? hx)
  have l1 := h3.length
  have l2 := g3.length
  have l3 : ys.length ≠ 0 := by cases ys <;> simp at hy0 ⊢
  have hlong : ¬ (!vs.toArray.isEmpty && Builtin.List.listTooLong (vs.toArray.size + us.toArray.size)) = true := by
    have : Builtin.List.listTooLong (vs.toArray.size + us.toArray.size) = false := by
      unfold Builtin.List.listTooLong
      simp only [List.size_toArray, decide_eq_false_iff_not]
      first | omega | (rw [sizeLine_eq]; omega)
    rw [this]; simp
  refine kl_extend (l := vs ++ us) hR.F hR.N g1 (by simp) (by simp; intro e; rw [e] at l2; simp at l2; exact hy0 l2) U hlong (by rw [sizeLine_eq]; simp; omega) (by rw [sizeLine_eq]; simp; omega) fun h' F' N' => ?_
  exact ⟨.none, st.setL i (xs ++ ys), μ, own, news', Stp.upd k1 k3 (by rw [h1]; rfl), ⟨F', N', hR.D.setL ha h1 (h3.append g3) (by rw [nls_append, hfl, hn]; rfl) k1 k2 k3⟩, .none, rfl, hq⟩

/-- o.name(args) for a tracked list o -/
theorem TriE_lmeth0 {pl : Sem Bool} {o : Expr} {name : Str} {id : String} {p p' : Pos} {Q : V → St → Prop} (slot : Slot "list" name id) (hty : typeOf (.builtin id) = pure (.type "method_descriptor"))
    (he : eval (.Call (.Attribute o name p') [] [] p) c.env = (do
      let ov ← eval o c.env
      standAt p'.atName
      let (f, first) ← holding [ov] (getMethod ov name pl)
      callWith p f first (backTo p (starEach [] c.env)) []))
    (h : TriE W c o ρ st fun a st' => ∃ i xs, a = .list i ∧ st'.lists[i]? = some xs ∧
      ∀ s μ own news m va, Rel W c st' μ own news m s → VR μ own news (.list i) va → wpAny (model W.prog W.w) c.A (call (.builtin id) [va]) (Post W c TA VR μ own news m s Q) (fun _ _ => False) s) :
    TriE W c (.Call (.Attribute o name p') [] [] p) ρ st Q := by
  intro s μ own news m hR hL
  refine MethodCall_ (wpAny_then h hR hL fun va s' a st' μ' own' news' S R' L' r e q => ?_) he
  obtain ⟨i, xs, rfl, hx, k⟩ := q
  refine listMethod R' r hx slot hty ?_
  refine callWith_method0 ?_
  exact wpAny_mono (k s' μ' own' news' m va R' r) (fun _ _ p => p.after S e) fun _ _ x => x
theorem TriE_lmeth1 {pl : Sem Bool} {o e1 : Expr} {name : Str} {id : String} {p p' : Pos} {Q : V → St → Prop} (slot : Slot "list" name id) (hty : typeOf (.builtin id) = pure (.type "method_descriptor"))
    (he : eval (.Call (.Attribute o name p') [e1] [] p) c.env = (do
      let ov ← eval o c.env
      standAt p'.atName
      let (f, first) ← holding [ov] (getMethod ov name pl)
      callWith p f first (backTo p (starEach [e1] c.env)) []))
    (hs : starEach [e1] c.env = (false, eval e1 c.env) :: starEach [] c.env)
    (h : TriE W c o ρ st fun a st' => ∃ i xs, a = .list i ∧ st'.lists[i]? = some xs ∧ TriE W c e1 ρ st' fun x st'' =>
      ∀ s μ own news m va vx, Rel W c st'' μ own news m s → VR μ own news (.list i) va → VR μ own news x vx → wpAny (model W.prog W.w) c.A (call (.builtin id) [va, vx]) (Post W c TA VR μ own news m s Q) (fun _ _ => False) s) :
    TriE W c (.Call (.Attribute o name p') [e1] [] p) ρ st Q := by
  intro s μ own news m hR hL
  refine MethodCall_ (wpAny_then h hR hL fun va s' a st' μ' own' news' S R' L' r e q => ?_) he
  obtain ⟨i, xs, rfl, hx, k⟩ := q
  refine listMethod R' r hx slot hty ?_
  refine callWith_method1 ?_ hs rfl
  have hargs : TriEs W c p [e1] ρ st' (fun ys st3 => ∃ x, ys = [x] ∧ ∀ s μ own news m va vx, Rel W c st3 μ own news m s → VR μ own news (.list i) va → VR μ own news x vx → wpAny (model W.prog W.w) c.A (call (.builtin id) [va, vx]) (Post W c TA VR μ own news m s Q) (fun _ _ => False) s) :=
    TriEs_cons hs (k.mono fun x st'' q => TriEs_nil ⟨x, rfl, q⟩)
  refine wpAny_then hargs R' L' fun vs s'' ys st'' μ'' own'' news'' S' R'' L'' r' e' q' => ?_
  obtain ⟨x, rfl, k'⟩ := q'
  cases r' with
  | cons r1 r2 =>
    cases r2
    exact wpAny_mono (k' s'' μ'' own'' news'' m va _ R'' (r.step S') r1) (fun _ _ p => p.after (S.trans S') (e.trans e')) fun _ _ x => x

noncomputable def appendV (st : St) (a x : V) (Q : V → St → Prop) : Prop := ∃ i xs, a = .list i ∧ st.lists[i]? = some xs ∧ nl x = true ∧ xs.length ≤ 1000 ∧ Q .none (st.setL i (xs ++ [x]))
noncomputable def popV (st : St) (a : V) (Q : V → St → Prop) : Prop := ∃ i xs x, a = .list i ∧ st.lists[i]? = some (xs ++ [x]) ∧ xs.length ≤ 1000 ∧ Q x (st.setL i xs)
end
end
-- == M12
section
open PySem PySem.W PySem.Calls PyProof.Rows
set_option linter.unusedVariables false

section
variable {W : Wc} {c : Fc} {ρ : Env0} {st : St}

theorem TriE_listF {es : List Expr} {p : Pos} {Q : V → St → Prop} (h : TriEs W c p es ρ st fun xs st' => xs.length ≤ 1000 ∧ Q (.fl xs) st') : TriE W c (.List es p) ρ st Q := by
  intro s μ own news m hR hL
  refine List_ (wpAny_then h hR hL fun vs s' xs st' μ' own' news' S R' L' r e q => ?_)
  refine newList_fl R' r (by rw [← r.length]; exact q.1) fun v s'' own'' news'' S' R'' r' e' => ?_
  exact ⟨.fl xs, st', μ', own'', news'', S.trans S', R'', r', e.trans e', q.2⟩

theorem TriE_append {pl : Sem Bool} {o e1 : Expr} {p p' : Pos} {Q : V → St → Prop}
    (he : eval (.Call (.Attribute o (Str.ofString "append") p') [e1] [] p) c.env = (do
      let ov ← eval o c.env
      standAt p'.atName
      let (f, first) ← holding [ov] (getMethod ov (Str.ofString "append") pl)
      callWith p f first (backTo p (starEach [e1] c.env)) []))
    (hs : starEach [e1] c.env = (false, eval e1 c.env) :: starEach [] c.env)
    (h : TriE W c o ρ st fun a st' => ∃ i xs, a = .list i ∧ st'.lists[i]? = some xs ∧ TriE W c e1 ρ st' fun x st'' => appendV st'' (.list i) x Q) :
    TriE W c (.Call (.Attribute o (Str.ofString "append") p') [e1] [] p) ρ st Q := by
  refine TriE_lmeth1 PySem.F.slot_list_append PySem.F.type_list_append he hs (h.mono fun a st' ⟨i, xs, ha, hx, k⟩ => ⟨i, xs, ha, hx, k.mono fun x st'' q s μ own news m va vx hR hv hy => ?_⟩)
  obtain ⟨j, ys, e, h1, h2, h3, h4⟩ := q
  cases e
  exact append_V hR hv h1 hy h2 h3 h4
theorem TriE_pop {pl : Sem Bool} {o : Expr} {p p' : Pos} {Q : V → St → Prop}
    (he : eval (.Call (.Attribute o (Str.ofString "pop") p') [] [] p) c.env = (do
      let ov ← eval o c.env
      standAt p'.atName
      let (f, first) ← holding [ov] (getMethod ov (Str.ofString "pop") pl)
      callWith p f first (backTo p (starEach [] c.env)) []))
    (h : TriE W c o ρ st fun a st' => popV st' a Q) :
    TriE W c (.Call (.Attribute o (Str.ofString "pop") p') [] [] p) ρ st Q := by
  refine TriE_lmeth0 PySem.F.slot_list_pop PySem.F.type_list_pop he (h.mono fun a st' ⟨i, xs, x, ha, hx, hz, hq⟩ => ⟨i, _, ha, hx, fun s μ own news m va hR hv => ?_⟩)
  exact pop_V hR hv hx hz hq
theorem TriE_extend {pl : Sem Bool} {o e1 : Expr} {p p' : Pos} {Q : V → St → Prop}
    (he : eval (.Call (.Attribute o (Str.ofString "extend") p') [e1] [] p) c.env = (do
      let ov ← eval o c.env
      standAt p'.atName
      let (f, first) ← holding [ov] (getMethod ov (Str.ofString "extend") pl)
      callWith p f first (backTo p (starEach [e1] c.env)) []))
    (hs : starEach [e1] c.env = (false, eval e1 c.env) :: starEach [] c.env)
    (h : TriE W c o ρ st fun a st' => ∃ i xs, a = .list i ∧ st'.lists[i]? = some xs ∧ TriE W c e1 ρ st' fun x st'' => ∃ ys zs, x = .fl ys ∧ nls ys = true ∧ ys ≠ [] ∧ ys.length ≤ 1000 ∧ st''.lists[i]? = some zs ∧ zs.length ≤ 1000 ∧ Q .none (st''.setL i (zs ++ ys))) :
    TriE W c (.Call (.Attribute o (Str.ofString "extend") p') [e1] [] p) ρ st Q := by
  refine TriE_lmeth1 PySem.F.slot_list_extend PySem.F.type_list_extend he hs (h.mono fun a st' ⟨i, xs, ha, hx, k⟩ => ⟨i, xs, ha, hx, k.mono fun x st'' q s μ own news m va vx hR hv hy => ?_⟩)
  obtain ⟨ys, zs, rfl, h1, h2, h3, h4, h5, h6⟩ := q
  exact extend_V hR hv h4 hy h1 h2 h5 h3 h6

/-- a value read by subscript -/
noncomputable def itemV (st : St) (a k : V) (Q : V → Prop) : Prop :=
  ∃ n, k = .int n ∧ match a with
  | .list i => ∃ xs x, st.lists[i]? = some xs ∧ 0 ≤ n ∧ n < 2 ^ 62 ∧ xs[n.toNat]? = some x ∧ Q x
  | .fl xs => ∃ x, 0 ≤ n ∧ n < 2 ^ 62 ∧ xs[n.toNat]? = some x ∧ Q x
  | .tup xs => ∃ x, 0 ≤ n ∧ n < 2 ^ 62 ∧ xs[n.toNat]? = some x ∧ Q x
  | .dict => ∃ x, (st.places.find? fun p => p.1 = n).map (·.2) = some x ∧ Q x
  | _ => False

theorem Prs.keys {μ : Mu} {own : Addr → Tag} {news : Led0} {xs : List (Int × V)} {vs : List (Int × Value)} (h : Prs μ own news xs vs) : xs.map (·.1) = vs.map (·.1) := by
  induction h with
  | nil => rfl
  | cons _ _ ih => simp [ih]
theorem Prs.length {μ : Mu} {own : Addr → Tag} {news : Led0} {xs : List (Int × V)} {vs : List (Int × Value)} (h : Prs μ own news xs vs) : xs.length = vs.length := by
  have := congrArg List.length h.keys; simpa using this
theorem Prs.find {μ : Mu} {own : Addr → Tag} {news : Led0} {n : Int} {x : V} {xs : List (Int × V)} {vs : List (Int × Value)} (h : Prs μ own news xs vs) (e : (xs.find? fun p => p.1 = n).map (·.2) = some x) : ∃ v, valueAt vs n = some v ∧ VR μ own news x v := by
  induction h with
  | nil => simp at e
  | @cons k y v ys us h1 h2 ih =>
    unfold valueAt at ih ⊢
    simp only [List.find?_cons] at e ⊢
    by_cases hk : k = n
    · subst hk; simp at e ⊢; subst e; exact h1
    · simp [hk] at e ⊢; simpa using ih (by simpa using e)

theorem subs_seq {value slice : Expr} {a : V} {va vk : Value} {k : V} {Q : V → St → Prop} {s : Shared} {μ : Mu} {own : Addr → Tag} {news : Led0} {m : Str → Option Value}
    (hs : ∀ o i, subscripted slice false o i = operate [o, i] (getItem o i)) (hR : Rel W c st μ own news m s) (hv : VR μ own news a va) (hk : VR μ own news k vk) (h : itemV st a k fun v => Q v st) :
    wpAny (model W.prog W.w) c.A (subscriptTail value slice va vk) (Post W c TA VR μ own news m s Q) (fun _ _ => False) s := by
  obtain ⟨n, rfl, h⟩ := h
  cases hk
  cases hv <;> try exact h.elim
  · rename_i i b hb
    obtain ⟨xs, x, h1, h2, h3, h4, hq⟩ := h
    obtain ⟨g1, vs, ne, g2, g3⟩ := hR.D.ls i b xs hb h1
    obtain ⟨v, g4, g5⟩ := g3.get h4
    have hl : s.heap.IsList b vs.toArray := ⟨_, (hR.N _ g2).1, rfl, ne, rfl⟩
    exact tail_any hl.typeIs slot_list_getitem.lookup (wpAny_getItem_list hl h2 (by omega) (by simpa using g4) (Post.now hR g5 rfl rfl hq)) (hs _ _)
  · obtain ⟨x, h1, hq⟩ := h
    obtain ⟨g1, g2, o, kvs, g3, g4, g5⟩ := hR.D.dc
    obtain ⟨v, g6, g7⟩ := g5.find h1
    have hm : s.heap.DictOf (intKind W.prog W.w) μ.dc kvs := Heap.dictOf_iff.mpr ⟨o, (hR.N _ g3).1, g4⟩
    exact tail_any hm.typeIs slot_dict_getitem.lookup (wpAny_getItem_of (intKind_is ..) hm.mapOf g6 (Post.now hR g7 rfl rfl hq)) (hs _ _)
  · rename_i b xs vs ne g1 g2 g3
    obtain ⟨x, h2, h3, h4, hq⟩ := h
    obtain ⟨v, g4, g5⟩ := g3.get h4
    have hl : IsTup s.heap b vs.toArray := ⟨_, (hR.N _ g1).1, rfl, ne, rfl⟩
    refine tail_any hl.typeIs slot_tuple_getitem.lookup (PyProof.Rows.getItem_tuple hl (by omega) (by omega) (j := n.toNat) ?_ (by simpa using g4) (Post.now hR g5 rfl rfl hq)) (hs _ _)
    have hlt : n.toNat < vs.length := (List.getElem?_eq_some_iff.mp g4).1
    unfold seqIndex?
    simp only [List.size_toArray]
    rw [if_neg (show ¬ n < 0 by omega)]
    rw [if_pos (by rw [Bool.and_eq_true, decide_eq_true_eq, decide_eq_true_eq]; omega)]
  · rename_i b xs vs ne g1 g2 g3
    obtain ⟨x, h2, h3, h4, hq⟩ := h
    obtain ⟨v, g4, g5⟩ := g3.get h4
    have hl : s.heap.IsList b vs.toArray := ⟨_, (hR.N _ g1).1, rfl, ne, rfl⟩
    exact tail_any hl.typeIs slot_list_getitem.lookup (wpAny_getItem_list hl h2 (by omega) (by simpa using g4) (Post.now hR g5 rfl rfl hq)) (hs _ _)

theorem TriE_sub {value slice : Expr} {p : Pos} {Q : V → St → Prop} (hs : ∀ o i, subscripted slice false o i = operate [o, i] (getItem o i))
    (h : TriE W c value ρ st fun a st' => TriE W c slice ρ st' fun k st'' => itemV st'' a k fun v => Q v st'') : TriE W c (.Subscript value slice p) ρ st Q := by
  intro s μ own news m hR hL
  refine Subscript_ (two_V h hR hL fun va vk s' a k st' μ' own' news' S R' L' ra rk e q => ?_)
  exact wpAny_mono (subs_seq hs R' ra rk q) (fun _ _ p => p.after S e) fun _ _ x => x
end
end
-- == M13
section
open PySem PySem.W PySem.Calls PyProof.Rows
set_option linter.unusedVariables false

/-- the dict with a value put, a key taken -/
noncomputable def putP (ps : List (Int × V)) (k : Int) (v : V) : List (Int × V) :=
  if ps.any (fun p => p.1 = k) then ps.map (fun p => if p.1 = k then (p.1, v) else p) else ps ++ [(k, v)]
noncomputable def delP (ps : List (Int × V)) (k : Int) : List (Int × V) := ps.filter fun p => decide (p.1 ≠ k)
noncomputable def getP (ps : List (Int × V)) (k : Int) : Option V := (ps.find? fun p => p.1 = k).map (·.2)

section
variable {W : Wc} {c : Fc} {ρ : Env0} {st : St}

theorem Prs.mapAt {μ : Mu} {own : Addr → Tag} {news : Led0} {k : Int} {x : V} {v : Value} {xs : List (Int × V)} {vs : List (Int × Value)} (h : Prs μ own news xs vs) (hv : VR μ own news x v) :
    Prs μ own news (xs.map fun p => if p.1 = k then (p.1, x) else p) (vs.map fun p => if p.1 = k then (p.1, v) else p) := by
  induction h with
  | nil => exact .nil
  | @cons j y u ys us h1 h2 ih =>
    simp only [List.map_cons]
    by_cases e : j = k
    · rw [if_pos e, if_pos e]; exact .cons hv ih
    · rw [if_neg e, if_neg e]; exact .cons h1 ih
theorem Prs.snoc {μ : Mu} {own : Addr → Tag} {news : Led0} {k : Int} {x : V} {v : Value} {xs : List (Int × V)} {vs : List (Int × Value)} (h : Prs μ own news xs vs) (hv : VR μ own news x v) :
    Prs μ own news (xs ++ [(k, x)]) (vs ++ [(k, v)]) := by
  induction h with
  | nil => exact .cons hv .nil
  | cons h1 h2 ih => exact .cons h1 ih
theorem Prs.put {μ : Mu} {own : Addr → Tag} {news : Led0} {k : Int} {x : V} {v : Value} {xs : List (Int × V)} {vs : List (Int × Value)} (h : Prs μ own news xs vs) (hv : VR μ own news x v) : Prs μ own news (putP xs k x) (stored vs k v) := by
  have hany : xs.any (fun p => p.1 = k) = vs.any (fun p => p.1 = k) := by
    clear hv
    induction h with
    | nil => rfl
    | cons _ _ ih => simp [ih]
  unfold putP stored
  rw [hany]
  split
  · exact h.mapAt hv
  · exact h.snoc hv
theorem Prs.del {μ : Mu} {own : Addr → Tag} {news : Led0} {k : Int} {xs : List (Int × V)} {vs : List (Int × Value)} (h : Prs μ own news xs vs) : Prs μ own news (delP xs k) (without vs k) := by
  unfold delP without
  induction h with
  | nil => exact .nil
  | @cons j y u ys us h1 h2 ih =>
    simp only [List.filter_cons]
    by_cases e : j = k
    · simp only [e, ne_eq, not_true, decide_false, Bool.false_eq_true, if_false]; exact ih
    · simp only [e, ne_eq, not_false_iff, decide_true, if_true]; exact .cons h1 ih

noncomputable def St.setP (st : St) (ps : List (Int × V)) : St := { st with places := ps }
theorem Led.setP {prog : Program} {w : World} {Cn Ct : Addr} {μ : Mu} {own : Addr → Tag} {news news' : Led0} {ps : List (Int × V)} {o' : Obj} {kvs : List (Int × Value)} (D : Led prog w Cn Ct st μ own news)
    (hv : Prs μ own news ps kvs) (ho : o'.IsDictOf (intKind prog w) kvs) (hn : ∀ p ∈ ps, nl p.2 = true) (k1 : ∀ p ∈ news, p.1 ≠ μ.dc → p ∈ news') (k2 : (μ.dc, o') ∈ news') (k3 : news'.map (·.1) = news.map (·.1)) :
    Led prog w Cn Ct (st.setP ps) μ own news' := by
  have hown := D.dc.1
  have S : Stp TA μ own news μ own news' := Stp.upd k1 k3 (by rw [hown]; rfl)
  refine ⟨k3 ▸ D.nodup, D.nlen, fun j q hq' => ?_, D.ll, fun j b ys hb hx => ?_, ?_, ?_, D.fl, hn⟩
  · obtain ⟨p1, p2, p3, es', n', p4, p5⟩ := D.nd j q hq'
    refine ⟨p1, p2, k1 _ p3 (fun e => by have e : q.1 = μ.dc := e; rw [e, hown] at p1; cases p1), es', n', k1 _ p4 (fun e => by have e : q.2 = μ.dc := e; rw [e, hown] at p2; cases p2), p5.len, fun g => ?_⟩
    obtain ⟨u, hu, hu'⟩ := p5.get g
    exact ⟨u, hu, hu'.step S⟩
  · obtain ⟨p1, vs', n', p2, p3⟩ := D.ls j b ys hb hx
    exact ⟨p1, vs', n', k1 _ p2 (fun e => by have e : b = μ.dc := e; rw [e, hown] at p1; cases p1), p3.step S⟩
  · obtain ⟨p1, p2, p3, es', n', p4, p5⟩ := D.tr
    refine ⟨p1, p2, k1 _ p3 (fun e => by have e : μ.tr.1 = μ.dc := e; rw [e, hown] at p1; cases p1), es', n', k1 _ p4 (fun e => by have e : μ.tr.2 = μ.dc := e; rw [e, hown] at p2; cases p2), p5.len, fun g => ?_⟩
    obtain ⟨u, hu, hu'⟩ := p5.get g
    exact ⟨u, hu, hu'.step S⟩
  · exact ⟨hown, D.dc.2.1, o', kvs, k2, ho, hv.step S⟩

/-- the dict's object changed by a step that leaves all else -/
theorem dict_chg {kvs' : List (Int × Value)} {ps : List (Int × V)} {h' : Heap} {s : Shared} {μ : Mu} {own : Addr → Tag} {news : Led0} {m : Str → Option Value} (hR : Rel W c st μ own news m s)
    (hd : h'.DictOf (intKind W.prog W.w) μ.dc kvs') (hs : Heap.SameBut μ.dc s.heap h') (hp : Prs μ own news ps kvs') (hn : ∀ p ∈ ps, nl p.2 = true) (tk : Nat) :
    ∃ news', Stp TA μ own news μ own news' ∧ Rel W c (st.setP ps) μ own news' m { s with heap := h', toks := tk } := by
  obtain ⟨g1, g2, o, kvs, g3, g4, g5⟩ := hR.D.dc
  obtain ⟨o', ho', hd'⟩ := Heap.dictOf_iff.mp hd
  obtain ⟨news', U, k1, k2, k3⟩ := upd_of_mem (o' := o') g3 hR.D.nodup
  have z := hR.N _ g3
  refine ⟨news', Stp.upd k1 k3 (by rw [g1]; rfl), hR.F.change hs z.2.1 z.2.2, ?_, hR.D.setP hp hd' hn k1 k2 k3⟩
  obtain ⟨pre, post, q1, q2, q3, q4⟩ := U.split
  subst q2
  have N := hR.N
  rw [q1] at N
  exact news_set N q3 q4 hs ho'

/-- a value put by subscript -/
noncomputable def putV (st : St) (a k v : V) (Q : St → Prop) : Prop :=
  ∃ n, k = .int n ∧ nl v = true ∧ match a with
  | .list i => ∃ xs, st.lists[i]? = some xs ∧ 0 ≤ n ∧ n < 2 ^ 62 ∧ n.toNat < xs.length ∧ Q (st.setL i (xs.set n.toNat v))
  | .dict => st.places.length ≤ 1000 ∧ Q (st.setP (putP st.places n v))
  | _ => False

theorem nls_set {xs : List V} {k : Nat} {v : V} (h : nls xs = true) (hv : nl v = true) : nls (xs.set k v) = true := by
  rw [nls_mem] at h ⊢
  intro x hx
  rcases List.mem_or_eq_of_mem_set hx with h1 | h1
  · exact h x h1
  · rw [h1]; exact hv
theorem putP_nl {ps : List (Int × V)} {k : Int} {v : V} (h : ∀ p ∈ ps, nl p.2 = true) (hv : nl v = true) : ∀ p ∈ putP ps k v, nl p.2 = true := by
  intro p hp
  unfold putP at hp
  split at hp
  · obtain ⟨q, hq, rfl⟩ := List.mem_map.mp hp
    split
    · exact hv
    · exact h q hq
  · rcases List.mem_append.mp hp with hp | hp
    · exact h p hp
    · rw [List.mem_singleton.mp hp]; exact hv

theorem setItem_V {a k v : V} {va vk vv : Value} {Q : Unit → St → Prop} {s : Shared} {μ : Mu} {own : Addr → Tag} {news : Led0} {m : Str → Option Value}
    (hR : Rel W c st μ own news m s) (ha : VR μ own news a va) (hk : VR μ own news k vk) (hv : VR μ own news v vv) (h : putV st a k v fun st' => Q () st') :
    wpAny (model W.prog W.w) c.A (setItem va vk vv) (Post W c TA EqR μ own news m s Q) (fun _ _ => False) s := by
  obtain ⟨n, rfl, hn, h⟩ := h
  cases hk
  cases ha <;> try exact h.elim
  · rename_i i b hb
    obtain ⟨xs, h1, h2, h3, h4, hq⟩ := h
    obtain ⟨g1, vs, ne, g2, g3⟩ := hR.D.ls i b xs hb h1
    obtain ⟨news', U, k1, k2, k3⟩ := upd_of_mem (o' := listOf (vs.set n.toNat vv).toArray ne) g2 hR.D.nodup
    have z := hR.N _ g2
    have hfl := hR.D.fl _ (List.mem_of_getElem? h1)
    refine ki_setAt z.1 h2 (by omega) (by rw [List.size_toArray, ← g3.length]; omega) ?_
    refine ⟨(), st.setL i (xs.set n.toNat v), μ, own, news', Stp.upd k1 k3 (by rw [g1]; rfl), ⟨hR.F.change (Heap.SameBut.update ..) z.2.1 z.2.2, ?_, hR.D.setL hb g1 (g3.set hv) (nls_set hfl hn) k1 k2 k3⟩, rfl, rfl, hq⟩
    obtain ⟨pre, post, q1, q2, q3, q4⟩ := U.split
    subst q2
    have N := hR.N
    rw [q1] at N
    refine ki_turn _ N q3 q4 ?_ ?_
    · apply Array.toList_inj.mp; simp
    · simp
  · obtain ⟨h1, hq⟩ := h
    obtain ⟨g1, g2, o, kvs, g3, g4, g5⟩ := hR.D.dc
    have hm : s.heap.DictOf (intKind W.prog W.w) μ.dc kvs := Heap.dictOf_iff.mpr ⟨o, (hR.N _ g3).1, g4⟩
    refine wpAny_setItem_pairs (intKind_is ..) hm (fun h' hd hs => ?_) (by rw [sizeLine_eq, ← g5.length]; omega)
    obtain ⟨news', S, R'⟩ := dict_chg hR hd hs (g5.put hv) (putP_nl hR.D.pl hn) (s.toks + 1)
    exact ⟨(), _, μ, own, news', S, R', rfl, rfl, hq⟩

theorem TriX_sub {o i e : Expr} {p p' : Pos} {Q : FV → Env0 → St → Prop} (hs : swapsWith e (some (.Subscript o i p')) p.line c.env = pure false)
    (h : TriE W c e ρ st fun v st' => TriE W c o ρ st' fun a st'' => TriE W c i ρ st'' fun k st3 => putV st3 a k v fun st4 => Q .next ρ st4) : TriX W c (.Assign [.Subscript o i p'] e p) ρ st Q := by
  intro s μ own news m hR hL
  refine wpAny_Assign_Subscript (wpAny_then h hR hL fun vv s₁ v st₁ μ₁ own₁ news₁ S₁ R₁ L₁ r₁ e₁ q₁ => ?_) hs
  refine two_V q₁ R₁ L₁ fun va vk s₂ a k st₂ μ₂ own₂ news₂ S₂ R₂ L₂ ra rk e₂ q₂ => ?_
  refine wpAny_mono (setItem_V R₂ ra rk (r₁.step S₂) (Q := fun _ st4 => Q .next ρ st4) q₂) (fun _ s3 p => ?_) fun _ _ x => x
  obtain ⟨b3, st3, μ3, own3, news3, S3, R3, r3, e3, q3⟩ := p
  exact ⟨.next, ρ, st3, μ3, own3, news3, m, (S₁.trans (S₂.trans S3)).AtoS, R3, L₂.step S3, .next, e₁.trans (e₂.trans e3), q3⟩

/-- d.pop(k) -/
theorem dictPop_V {n : Int} {t : Tok} {x : V} {Q : V → St → Prop} {s : Shared} {μ : Mu} {own : Addr → Tag} {news : Led0} {m : Str → Option Value}
    (hR : Rel W c st μ own news m s) (hx : getP st.places n = some x) (hz : st.places.length ≤ 1000) (hq : Q x (st.setP (delP st.places n))) :
    wpAny (model W.prog W.w) c.A (call (.builtin "dict.pop") [.ref μ.dc, .int n t]) (Post W c TA VR μ own news m s Q) (fun _ _ => False) s := by
  obtain ⟨g1, g2, o, kvs, g3, g4, g5⟩ := hR.D.dc
  have hm : s.heap.DictOf (intKind W.prog W.w) μ.dc kvs := Heap.dictOf_iff.mpr ⟨o, (hR.N _ g3).1, g4⟩
  obtain ⟨v, h1, h2⟩ := g5.find hx
  refine call_meetsIn PySem.F.slot_dict_pop hm.typeIs PySem.F.entry_dict_pop (PySem.F.args_dict_pop_2 _ _) (meets_dict_pop_there (intKind W.prog W.w) μ.dc (intKind_is W.prog W.w n t) [] (.inl rfl) rfl) ⟨kvs, v, hm, by rw [sizeLine_eq, ← g5.length]; omega, h1, fun h' hd hs => ?_⟩
  obtain ⟨news', S, R'⟩ := dict_chg hR hd hs (ps := delP st.places n) g5.del (fun p hp => hR.D.pl p (List.mem_filter.mp hp).1) (s.toks + 1)
  exact ⟨x, _, μ, own, news', S, R', h2.step S, rfl, hq⟩
end
end
-- == M14
section
open PySem PySem.W PySem.Calls PyProof.Rows
set_option linter.unusedVariables false
section
variable {W : Wc} {c : Fc} {ρ : Env0} {st : St}

theorem TriE_builtin {d : Nat} {nm : Str} {id : String} {p p' : Pos} {e : Expr} {es : List Expr} {Q : V → St → Prop} (ok : c.Ok W d) (hk : c.cs.names.lookup nm = some .globalImplicit) (hK : nsIn W.K mainGlobals nm = some none)
    (hb : bootBuiltins nm = some (.builtin id)) (hnn : nm ≠ "__name__")
    (he : starEach (e :: es) c.env = (false, eval e c.env) :: starEach es c.env) (hp : (backTo p (starEach es c.env)).any (·.1) = false)
    (h : TriEs W c p (e :: es) ρ st fun xs st' => ∀ s μ own news m vs, Rel W c st' μ own news m s → VRs μ own news xs vs → wpAny (model W.prog W.w) c.A (call (.builtin id) vs) (Post W c TA VR μ own news m s Q) (fun _ _ => False) s)
    (hd : (nm == ("__debug__" : Str)) = false := by decide)
    (hc : eval (.Call (.Name nm p') (e :: es) [] p) c.env = (do callWith p (← eval (.Name nm p') c.env) [] (backTo p (starEach (e :: es) c.env)) (backToKw p (keywordEach [] c.env))) := by rfl) :
    TriE W c (.Call (.Name nm p') (e :: es) [] p) ρ st Q := by
  intro s μ own news m hR hL
  refine Call_ (nameX_B hR.F ok.X ok.T hK hb hnn ?_ ok.hk hk hd) hc
  refine PyProof.Rows.callWith_builtin1 (wpAny_then h hR hL fun vs s' xs st' μ' own' news' S R' L' r e' q => ?_) he hp
  exact wpAny_mono (q s' μ' own' news' m vs R' r) (fun _ _ p => p.after S e') fun _ _ x => x

/-- a list's items, whether the list is tracked or frozen -/
noncomputable def seqV (st : St) (a : V) (xs : List V) : Prop :=
  match a with
  | .list i => st.lists[i]? = some xs
  | .fl ys => ys = xs
  | _ => False
theorem seq_V {a : V} {va : Value} {xs : List V} {s : Shared} {μ : Mu} {own : Addr → Tag} {news : Led0} {m : Str → Option Value} (hR : Rel W c st μ own news m s) (hv : VR μ own news a va) (h : seqV st a xs) :
    ∃ l vs n, va = .ref l ∧ (l, listOf vs.toArray n) ∈ news ∧ VRs μ own news xs vs := by
  cases hv <;> try exact h.elim
  · rename_i i b hb
    obtain ⟨g1, vs, n, g2, g3⟩ := hR.D.ls i b xs hb h
    exact ⟨b, vs, n, rfl, g2, g3⟩
  · rename_i b ys vs n g1 g2 g3
    cases (show ys = xs from h)
    exact ⟨b, vs, n, rfl, g1, g3⟩

theorem VRs.ints {μ : Mu} {own : Addr → Tag} {news : Led0} : ∀ {ns : List Int} {vs : List Value}, VRs μ own news (ns.map V.int) vs → IntsAre vs ns
  | [], _, h => by cases h; exact .nil
  | n :: r, _, h => by
    cases h with
    | cons h1 h2 => cases h1; exact .cons _ _ h2.ints
theorem VRs.ofInts {μ : Mu} {own : Addr → Tag} {news : Led0} : ∀ {ns : List Int} {vs : List Value}, IntsAre vs ns → VRs μ own news (ns.map V.int) vs
  | _, _, .nil => .nil
  | _, _, .cons n t r => .cons (.int n t) (VRs.ofInts r)

theorem len_V {a : V} {va : Value} {n : Nat} {Q : V → St → Prop} {s : Shared} {μ : Mu} {own : Addr → Tag} {news : Led0} {m : Str → Option Value} (hR : Rel W c st μ own news m s) (hv : VR μ own news a va)
    (h : (∃ xs, seqV st a xs ∧ xs.length = n) ∨ (a = .dict ∧ st.places.length = n)) (hn : n ≤ 1000) (hq : Q (.int n) st) :
    wpAny (model W.prog W.w) c.A (call (.builtin "len") [va]) (Post W c TA VR μ own news m s Q) (fun _ _ => False) s := by
  rcases h with ⟨xs, h, rfl⟩ | ⟨rfl, rfl⟩
  · obtain ⟨l, vs, k, rfl, g2, g3⟩ := seq_V hR hv h
    have hl : s.heap.IsList l vs.toArray := ⟨_, (hR.N _ g2).1, rfl, k, rfl⟩
    refine call_len_list hl (by have := g3.length; simp; omega) ?_
    refine Post.now hR ?_ rfl rfl hq
    have : (vs.toArray.size : Int) = xs.length := by simp [g3.length]
    rw [this]; exact .int _ _
  · cases hv
    obtain ⟨g1, g2, o, kvs, g3, g4, g5⟩ := hR.D.dc
    have hm : s.heap.DictOf (intKind W.prog W.w) μ.dc kvs := Heap.dictOf_iff.mpr ⟨o, (hR.N _ g3).1, g4⟩
    refine call_len_dict g2 hm (by have := g5.length; omega) ?_
    refine Post.now hR ?_ rfl rfl hq
    rw [← g5.length]; exact .int _ _

theorem moved_V {h' : Heap} {tk : Nat} {a : V} {va : Value} {Q : V → St → Prop} {s : Shared} {μ : Mu} {own : Addr → Tag} {news : Led0} {m : Str → Option Value} (hR : Rel W c st μ own news m s) (F' : Fr c.h₀ c.L h' m) (N' : News c.h₀ c.L h' news)
    (hv : VR μ own news a va) (hq : Q a st) : Post W c TA VR μ own news m s Q va { s with heap := h', toks := tk } :=
  ⟨a, st, μ, own, news, Stp.refl .., ⟨F', N', hR.D⟩, hv, rfl, hq⟩
theorem newFl_V {h' : Heap} {tk : Nat} {D : Addr} {xs : List V} {vs : List Value} {n : Nat} {Q : V → St → Prop} {s : Shared} {μ : Mu} {own : Addr → Tag} {news : Led0} {m : Str → Option Value} (hR : Rel W c st μ own news m s) (F' : Fr c.h₀ c.L h' m)
    (N' : News c.h₀ c.L h' ((D, listOf vs.toArray n) :: news)) (hlt : ∀ p ∈ news, p.1 < D) (hv : VRs μ own news xs vs) (hq : Q (.fl xs) st) : Post W c TA VR μ own news m s Q (.ref D) { s with heap := h', toks := tk } := by
  have hf : ∀ p ∈ news, p.1 ≠ D := fun p hp => Nat.ne_of_lt (hlt p hp)
  have S : Stp TA μ own news μ (ownAt own D .fz) ((D, listOf vs.toArray n) :: news) := Stp.grow hf
  exact ⟨.fl xs, st, μ, _, _, S, ⟨F', N', hR.D.grow hf⟩, .fl (n := n) (.head _) ownAt_self (hv.step S), rfl, hq⟩

theorem max2_V {d : Nat} {a b : V} {x y : Int} {va vb : Value} {Q : V → St → Prop} {s : Shared} {μ : Mu} {own : Addr → Tag} {news : Led0} {m : Str → Option Value} (ok : c.Ok W d) (hR : Rel W c st μ own news m s) (ha : VR μ own news a va) (hb : VR μ own news b vb)
    (e1 : a = .int x) (e2 : b = .int y) (hq : Q (.int (max x y)) st) : wpAny (model W.prog W.w) c.A (call (.builtin "max") [va, vb]) (Post W c TA VR μ own news m s Q) (fun _ _ => False) s := by
  subst e1 e2
  cases ha; cases hb
  refine max_two_N ok.hh hR.F hR.N fun h' tk F' N' => ?_
  refine moved_V hR F' N' ?_ hq
  have : max x y = if y > x then y else x := by split <;> omega
  rw [this]; exact .int _ _
theorem maxl_V {d : Nat} {a : V} {va : Value} {ns : List Int} {Q : V → St → Prop} {s : Shared} {μ : Mu} {own : Addr → Tag} {news : Led0} {m : Str → Option Value} (ok : c.Ok W d) (hR : Rel W c st μ own news m s) (ha : VR μ own news a va)
    (h : seqV st a (ns.map V.int)) (hne : ns ≠ []) (hq : ∀ M, M ∈ ns → (∀ a ∈ ns, a ≤ M) → Q (.int M) st) : wpAny (model W.prog W.w) c.A (call (.builtin "max") [va]) (Post W c TA VR μ own news m s Q) (fun _ _ => False) s := by
  obtain ⟨l, vs, k, rfl, g2, g3⟩ := seq_V hR ha h
  have hl : s.heap.IsList l vs.toArray := ⟨_, (hR.N _ g2).1, rfl, k, rfl⟩
  exact kso_max hR.F hR.N hl g3.ints (List.length_pos_iff.mpr hne) ok.hh fun h' M t tk F' N' h1 h2 => moved_V hR F' N' (.int _ _) (hq M h1 h2)
theorem minl_V {d : Nat} {a : V} {va : Value} {ns : List Int} {Q : V → St → Prop} {s : Shared} {μ : Mu} {own : Addr → Tag} {news : Led0} {m : Str → Option Value} (ok : c.Ok W d) (hR : Rel W c st μ own news m s) (ha : VR μ own news a va)
    (h : seqV st a (ns.map V.int)) (hne : ns ≠ []) (hq : ∀ M, M ∈ ns → (∀ a ∈ ns, M ≤ a) → Q (.int M) st) : wpAny (model W.prog W.w) c.A (call (.builtin "min") [va]) (Post W c TA VR μ own news m s Q) (fun _ _ => False) s := by
  obtain ⟨l, vs, k, rfl, g2, g3⟩ := seq_V hR ha h
  have hl : s.heap.IsList l vs.toArray := ⟨_, (hR.N _ g2).1, rfl, k, rfl⟩
  exact kso_min hR.F hR.N hl g3.ints (List.length_pos_iff.mpr hne) ok.hh fun h' M t tk F' N' h1 h2 => moved_V hR F' N' (.int _ _) (hq M h1 h2)
theorem sorted_V {a : V} {va : Value} {ns : List Int} {Q : V → St → Prop} {s : Shared} {μ : Mu} {own : Addr → Tag} {news : Led0} {m : Str → Option Value} (hR : Rel W c st μ own news m s) (ha : VR μ own news a va)
    (h : seqV st a (ns.map V.int)) (h64 : ns.length < 64) (hq : ∀ ms : List Int, ms.Perm ns → ms.Pairwise (· ≤ ·) → Q (.fl (ms.map V.int)) st) : wpAny (model W.prog W.w) c.A (call (.builtin "sorted") [va]) (Post W c TA VR μ own news m s Q) (fun _ _ => False) s := by
  obtain ⟨l, vs, k, rfl, g2, g3⟩ := seq_V hR ha h
  have hl : s.heap.IsList l vs.toArray := ⟨_, (hR.N _ g2).1, rfl, k, rfl⟩
  exact kso_sorted hR.F hR.N hl g3.ints h64 fun D vs' ns' cc h' F' N' hlt hi _ hp ho _ => newFl_V (tk := s.toks) hR F' N' hlt (VRs.ofInts hi) (hq ns' hp ho)

theorem sortedDict_V {d : Nat} {a : V} {va : Value} {Q : V → St → Prop} {s : Shared} {μ : Mu} {own : Addr → Tag} {news : Led0} {m : Str → Option Value} (ok : c.Ok W d) (hR : Rel W c st μ own news m s) (ha : VR μ own news a va)
    (e : a = .dict) (h64 : st.places.length < 64) (hq : ∀ ms : List Int, ms.Perm (st.places.map (·.1)) → ms.Pairwise (· ≤ ·) → Q (.fl (ms.map V.int)) st) : wpAny (model W.prog W.w) c.A (call (.builtin "sorted") [va]) (Post W c TA VR μ own news m s Q) (fun _ _ => False) s := by
  subst e
  cases ha
  obtain ⟨g1, g2, o, kvs, g3, g4, g5⟩ := hR.D.dc
  have hm : s.heap.DictOf (intKind W.prog W.w) μ.dc kvs := Heap.dictOf_iff.mpr ⟨o, (hR.N _ g3).1, g4⟩
  obtain ⟨ep, hat⟩ := hm.dictAt
  have hlen := g5.length
  refine kdu_sorted (kdl_dict (knd := intKind W.prog W.w) (kvs := kvs) (ep := ep) g2) ok.hh hR.F hR.N hat (by rw [sizeLine_eq]; omega) fun D h' tk vs F' N' hlt hl hP => ?_
  have hi : IntsAre vs (kvs.map (·.1)) := by
    clear g5 hlen N' hat hm g4
    revert kvs
    induction vs with
    | nil => intro kvs hl hP; simp at hl; cases kvs <;> simp at hl; exact .nil
    | cons v r ih =>
      intro kvs hl hP
      cases kvs with
      | nil => simp at hl
      | cons kv kr =>
        obtain ⟨k, x, e, hk⟩ := hP 0 v rfl
        simp at e
        subst e
        have hr := ih kr (by simpa using hl) fun j u hj => by simpa using hP (j + 1) u (by simpa using hj)
        have : ∃ t, v = .int k t := by
          simp only [intKind] at hk
          cases v <;> simp [Value.isInt] at hk
          exact ⟨_, by rw [hk]⟩
        obtain ⟨t, rfl⟩ := this
        exact .cons _ _ hr
  refine ksk_lsort (D := D) (its := vs.toArray) (n := 0) (news := (D, listOf vs.toArray 0) :: news) (news' := fun o => (D, o) :: news) (s := { s with heap := h', toks := tk }) F' N' (fun o => .head (fun p hp => Nat.ne_of_lt (hlt p hp))) (vs := vs) (by simp) hi (by rw [List.length_map]; omega) fun vs' ns' cc h2 F2 N2 hi2 hl2 hp2 ho2 _ => ?_
  exact newFl_V hR F2 N2 hlt (VRs.ofInts hi2) (hq ns' (by rw [g5.keys]; exact hp2) ho2)
end
end
-- == M15
section
open PySem PySem.W PySem.Calls PyProof.Rows
set_option linter.unusedVariables false

noncomputable def setLs : List (Str × V) → Env0 → Env0
  | [], ρ => ρ
  | (x, a) :: r, ρ => setLs r (setL ρ x a)
noncomputable def v3 (t : Int × Int × Int) : V := .tup [.int t.1, .int t.2.1, .int t.2.2]
noncomputable def d3 (t : Int × Int × Int) : PyData := .tuple [.int t.1, .int t.2.1, .int t.2.2]

section
variable {W : Wc} {c : Fc} {ρ : Env0} {st : St}

theorem stores_V {d : Nat} (ok : c.Ok W d) : ∀ (l : List (Str × (Value → Sem Unit))) (xs : List V) (vs : List Value) {ρ : Env0} {Z : Unit → Shared → Prop} {s : Shared} {μ : Mu} {own : Addr → Tag} {news : Led0} {m : Str → Option Value},
    (∀ p ∈ l, c.cs.names.lookup p.1 = some .local ∧ ∀ v (Z : Unit → Shared → Prop) s, wpAny (model W.prog W.w) c.A (storeName c.env p.1 v) Z (fun _ _ => False) s → wpAny (model W.prog W.w) c.A (p.2 v) Z (fun _ _ => False) s) →
    Rel W c st μ own news m s → Loc c ρ m μ own news → VRs μ own news xs vs → l.length = xs.length →
    (∀ s' m', Rel W c st μ own news m' s' → Loc c (setLs ((l.map (·.1)).zip xs) ρ) m' μ own news → Same s s' → Z () s') →
    wpAny (model W.prog W.w) c.A (assignInOrder (l.map (·.2)) vs) Z (fun _ _ => False) s
  | [], [], _, ρ, Z, s, μ, own, news, m, _, hR, hL, hv, _, k => by cases hv; exact assignInOrder_nil (k s m hR hL rfl)
  | [], _ :: _, _, _, _, _, _, _, _, _, _, _, _, _, h, _ => by simp at h
  | _ :: _, [], _, _, _, _, _, _, _, _, _, _, _, _, h, _ => by simp at h
  | p :: r, x :: xs, _, ρ, Z, s, μ, own, news, m, hl, hR, hL, hv, hn, k => by
    cases hv with
    | cons h1 h2 =>
      refine assignInOrder_cons ((hl p (.head _)).2 _ _ _ (store_V ok (hl p (.head _)).1 hR hL h1 fun s' m' R' L' e => ?_))
      exact stores_V ok r xs _ (fun q hq => hl q (.tail _ hq)) R' L' h2 (by simpa using hn) fun s'' m'' R'' L'' e' => k s'' m'' R'' L'' (e.trans e')

theorem unpack_V {d : Nat} {xs : List V} {va : Value} {n : Nat} {Z : List Value → Shared → Prop} {s : Shared} {μ : Mu} {own : Addr → Tag} {news : Led0} {m : Str → Option Value} (ok : c.Ok W d) (hR : Rel W c st μ own news m s) (hv : VR μ own news (.tup xs) va) (hn : n = xs.length)
    (k : ∀ vs s', Rel W c st μ own news m s' → VRs μ own news xs vs → Same s s' → Z vs s') : wpAny (model W.prog W.w) c.A (unpackItems va n none) Z (fun _ _ => False) s := by
  subst hn
  cases hv
  rename_i l vs n h1 h2 h3
  have hl : IsTup s.heap l vs.toArray := ⟨_, (hR.N _ h1).1, rfl, n, rfl⟩
  have e : xs.length = vs.toArray.size := by simpa using h3.length
  rw [e]
  refine unpackItems_tuple ok.hh hl fun h' he => ?_
  exact k _ _ ⟨hR.F.extBut he (Nat.le_refl _), hR.N.extBut he (Nat.le_refl _), hR.D⟩ (by simpa using h3) rfl

/-- x, y = a, b: the stores go from the last -/
theorem TriX_swap {d : Nat} {elts : List Expr} {k : Nat} {tpos pos : Pos} {value : Expr} {names : List Str} {Q : FV → Env0 → St → Prop} (ok : c.Ok W d) (hk : ∀ n ∈ names, c.cs.names.lookup n = some .local)
    (hs : swapsWithSole [.Tuple elts k tpos] value pos.line c.env = pure false) (hw : swappedStores [.Tuple elts k tpos] value c.env = pure (some names))
    (h : TriE W c value ρ st fun a st' => ∃ xs, a = .tup xs ∧ xs.length = names.length ∧ Q .next (setLs (names.reverse.zip xs.reverse) ρ) st') : TriX W c (.Assign [.Tuple elts k tpos] value pos) ρ st Q := by
  intro s μ own news m hR hL
  refine Assign_Tuple_swapped (wpAny_then h hR hL fun va s' a st' μ' own' news' S R' L' r e q => ?_) hs hw
  obtain ⟨xs, rfl, hn, hq⟩ := q
  refine unpack_V ok R' r hn.symm fun vs s'' R'' r'' e'' => ?_
  have key := stores_V (Z := fun _ s3 => PostS W c μ own news s Q .next s3) ok (names.reverse.map fun n => (n, bindName c.env n)) xs.reverse vs.reverse (ρ := ρ) (fun p hp => ?_) R'' L' r''.reverse (by simp [hn]) (fun s3 m3 R3 L3 e3 => ?_)
  · rw [List.map_map] at key; exact key
  · obtain ⟨n, hn', rfl⟩ := List.mem_map.mp hp
    exact ⟨hk n (List.mem_reverse.mp hn'), fun v Z s h => bindName_ h⟩
  · refine ⟨.next, _, st', μ', own', news', m3, S.AtoS, R3, L3, .next, e.trans (e''.trans e3), ?_⟩
    rw [List.map_map]
    have : (names.reverse.map ((fun (x : Str × (Value → Sem Unit)) => x.1) ∘ fun n => (n, bindName c.env n))) = names.reverse := by
      conv => rhs; rw [← List.map_id names.reverse]
      rfl
    rw [this]; exact hq
/-- a, b, c, d = value: the stores go from the first -/
theorem TriX_unpack {d : Nat} {elts : List Expr} {k : Nat} {tpos pos : Pos} {value : Expr} {names : List (Str × Pos)} {Q : FV → Env0 → St → Prop} (ok : c.Ok W d) (hk : ∀ n ∈ names, c.cs.names.lookup n.1 = some .local)
    (hs : swapsWithSole [.Tuple elts k tpos] value pos.line c.env = pure false) (hw : swappedStores [.Tuple elts k tpos] value c.env = pure none)
    (hn1 : (assignEach elts c.env).map (·.2) = names.map fun n => assign (.Name n.1 n.2) c.env) (hstar : (assignEach elts c.env).findIdx? (·.1) = none)
    (h : TriE W c value ρ st fun a st' => ∃ xs, a = .tup xs ∧ xs.length = names.length ∧ Q .next (setLs ((names.map (·.1)).zip xs) ρ) st') : TriX W c (.Assign [.Tuple elts k tpos] value pos) ρ st Q := by
  intro s μ own news m hR hL
  refine Assign_Tuple (wpAny_then h hR hL fun va s' a st' μ' own' news' S R' L' r e q => ?_) hs hw
  obtain ⟨xs, rfl, hn, hq⟩ := q
  have hlen : (assignEach elts c.env).length = xs.length := by
    have := congrArg List.length hn1
    simp only [List.length_map] at this
    omega
  cases id r
  rename_i l vs nn h1 h2 h3
  have hl : IsTup s'.heap l vs.toArray := ⟨_, (R'.N _ h1).1, rfl, nn, rfl⟩
  refine assign_Tuple_tuple ok.hh hl (by rw [hlen]; simpa using h3.length) hstar fun h' he => ?_
  rw [hn1]
  have R'' : Rel W c st' μ' own' news' m { s' with heap := h' } := ⟨R'.F.extBut he (Nat.le_refl _), R'.N.extBut he (Nat.le_refl _), R'.D⟩
  have key := stores_V (Z := fun _ s3 => PostS W c μ own news s Q .next s3) ok (names.map fun n => (n.1, assign (.Name n.1 n.2) c.env)) xs vs (ρ := ρ) (fun p hp => ?_) R'' L' h3 (by simp [hn]) (fun s3 m3 R3 L3 e3 => ?_)
  · rw [List.map_map] at key
    show wpAny _ _ (assignInOrder (names.map fun n => assign (.Name n.1 n.2) c.env) vs.toArray.toList) _ _ _
    rw [show vs.toArray.toList = vs by simp]
    exact key
  · obtain ⟨n, hn', rfl⟩ := List.mem_map.mp hp
    exact ⟨hk n hn', fun v Z s h => PyProof.Rows.assign_Name h⟩
  · refine ⟨.next, _, st', μ', own', news', m3, S.AtoS, R3, L3, .next, e.trans ((Same.mk s' h' s'.toks).trans e3), ?_⟩
    rw [List.map_map]
    exact hq

/-- d.pop(k) -/
theorem TriE_dpop {pl : Sem Bool} {o e1 : Expr} {p p' : Pos} {Q : V → St → Prop}
    (he : eval (.Call (.Attribute o (Str.ofString "pop") p') [e1] [] p) c.env = (do
      let ov ← eval o c.env
      standAt p'.atName
      let (f, first) ← holding [ov] (getMethod ov (Str.ofString "pop") pl)
      callWith p f first (backTo p (starEach [e1] c.env)) []))
    (hs : starEach [e1] c.env = (false, eval e1 c.env) :: starEach [] c.env)
    (h : TriE W c o ρ st fun a st' => a = .dict ∧ TriE W c e1 ρ st' fun k st'' => ∃ n x, k = .int n ∧ getP st''.places n = some x ∧ st''.places.length ≤ 1000 ∧ Q x (st''.setP (delP st''.places n))) :
    TriE W c (.Call (.Attribute o (Str.ofString "pop") p') [e1] [] p) ρ st Q := by
  intro s μ own news m hR hL
  refine MethodCall_ (wpAny_then h hR hL fun va s' a st' μ' own' news' S R' L' r e q => ?_) he
  obtain ⟨rfl, k⟩ := q
  cases r
  obtain ⟨g1, g2, ob, kvs, g3, g4, g5⟩ := R'.D.dc
  have hm : s'.heap.DictOf (intKind W.prog W.w) μ'.dc kvs := Heap.dictOf_iff.mpr ⟨ob, (R'.N _ g3).1, g4⟩
  refine getMethod_builtin hm.typeIs PySem.F.plainAttrs_dict PySem.F.slot_dict_pop PySem.F.type_dict_pop hm.mapOf.noDict ?_
  refine callWith_method1 ?_ hs rfl
  have hargs : TriEs W c p [e1] ρ st' (fun ys st3 => ∃ y, ys = [y] ∧ ∃ n x, y = .int n ∧ getP st3.places n = some x ∧ st3.places.length ≤ 1000 ∧ Q x (st3.setP (delP st3.places n))) :=
    TriEs_cons hs (k.mono fun x st'' q => TriEs_nil ⟨x, rfl, q⟩)
  refine wpAny_then hargs R' L' fun vs s'' ys st'' μ'' own'' news'' S' R'' L'' r' e' q' => ?_
  obtain ⟨y, rfl, n, x, rfl, hx, hz, hq⟩ := q'
  cases r' with
  | cons r1 r2 =>
    cases r2
    cases r1
    rename_i tk0
    have := dictPop_V (t := tk0) (Q := Q) R'' hx hz hq
    rw [S'.dc] at this
    exact wpAny_mono this (fun _ _ p => p.after (S.trans S') (e.trans e')) fun _ _ x => x

/-- l[::-1] -/
theorem TriE_rev {value : Expr} {i : Int} {k : Nat} {p p1 p2 p3 : Pos} {Q : V → St → Prop} (hi : i = 1)
    (hs : ∀ o i', ∃ ops, subscripted (.Slice none none (some (.UnaryOp .USub (.Constant (.int i) k p1) p2)) p3) false o i' = operate ops (getItem o i')) (ht : ∀ o r, letTemporaryGo value o r = pure ())
    (h : TriE W c value ρ st fun a st' => ∃ xs, seqV st' a xs ∧ xs.length ≤ 1000 ∧ Q (.fl xs.reverse) st') :
    TriE W c (.Subscript value (.Slice none none (some (.UnaryOp .USub (.Constant (.int i) k p1) p2)) p3) p) ρ st Q := by
  subst hi
  intro s μ own news m hR hL
  refine Subscript_ (wpAny_then h hR hL fun va s' a st' μ' own' news' S R' L' r e q => ?_)
  obtain ⟨xs, hx, hz, hq⟩ := q
  obtain ⟨l, vs, n, rfl, g2, g3⟩ := seq_V R' r hx
  have hl : s'.heap.IsList l vs.toArray := ⟨_, (R'.N _ g2).1, rfl, n, rfl⟩
  refine wpAny_Slice ?_
  rw [evalPart_none]
  refine wpAny_pure ?_
  refine wpAny_pure ?_
  rw [evalPart_some]
  refine UnaryOp_ (wpAny_Constant_int (neg_int ?_))
  have g3' := g3.length
  obtain ⟨ops, hs⟩ := hs (.ref l) (.ref s'.heap.objs.size)
  refine krv_lit (s := { s' with toks := _ }) R'.F R'.N hl (.int _ _) (zs := vs.reverse) (by simp) (fun D h' F' N' hlt => ?_) hs (ht _) (by rw [sizeLine_eq]; simp; omega)
  exact (newFl_V (s := s') R' F' N' hlt g3.reverse hq).after S e
end
end
-- == M16
section
open PySem PySem.W PySem.Calls PyProof.Rows
set_option linter.unusedVariables false

noncomputable def lcmpV (st : St) (op : CmpOp) (a b : V) (Q : V → Prop) : Prop :=
  ∃ xs ys, seqV st a xs ∧ seqV st b ys ∧
    ((op = .NotEq ∧ ys = [] ∧ Q (.bool (!xs.isEmpty))) ∨
     (op = .Eq ∧ ∃ ns ms : List Int, xs = ns.map V.int ∧ ys = ms.map V.int ∧ Q (.bool (decide (ns = ms)))) ∨
     (op = .NotEq ∧ ∃ ts us : List (Int × Int × Int), xs = ts.map v3 ∧ ys = us.map v3 ∧ Q (.bool (!decide (ts = us)))))

theorem canLayAll0_d3 : ∀ ts : List (Int × Int × Int), PyData.canLayAll0 (ts.map d3) = true
  | [] => by simp [PyData.canLayAll0]
  | t :: r => by simp [PyData.canLayAll0, PyData.canLay0, d3, canLayAll0_d3 r]
theorem depthAll_d3 : ∀ ts : List (Int × Int × Int), PyData.depthAll (ts.map d3) ≤ 2
  | [] => by simp [PyData.depthAll]
  | t :: r => by
    have := depthAll_d3 r
    simp only [List.map_cons, PyData.depthAll, PyData.depth, d3]
    omega
theorem shaped_d3 (ts : List (Int × Int × Int)) : SeqAt.shaped (.list (ts.map d3)) = true := by
  have h1 := depthAll_d3 ts
  have h2 : PyData.depth (.list (ts.map d3)) ≤ 64 := by simp only [PyData.depth]; omega
  show (PyData.canLay0 (.list (ts.map d3)) && decide (PyData.depth (.list (ts.map d3)) ≤ 64)) = true
  rw [Bool.and_eq_true]
  exact ⟨by simp only [PyData.canLay0]; exact canLayAll0_d3 ts, decide_eq_true h2⟩
theorem noMix_d3 : ∀ ts us : List (Int × Int × Int), SeqAt.noMixAll (ts.map d3) (us.map d3) = true
  | [], [] => by simp [SeqAt.noMixAll]
  | [], _ :: _ => by simp [SeqAt.noMixAll]
  | _ :: _, [] => by simp [SeqAt.noMixAll]
  | _ :: r, _ :: q => by simp [SeqAt.noMixAll, SeqAt.noMix, d3, noMix_d3 r q]
theorem same_d3 : ∀ ts us : List (Int × Int × Int), PySem.Spec.sameAll (ts.map d3) (us.map d3) = decide (ts = us)
  | [], [] => by simp [PySem.Spec.sameAll]
  | [], _ :: _ => by simp [PySem.Spec.sameAll]
  | _ :: _, [] => by simp [PySem.Spec.sameAll]
  | (a, b, c) :: r, (x, y, z) :: q => by
    show (PySem.Spec.same (d3 (a, b, c)) (d3 (x, y, z)) && PySem.Spec.sameAll (r.map d3) (q.map d3)) = _
    rw [same_d3 r q]
    simp only [d3, PySem.Spec.same, PySem.Spec.sameAll]
    by_cases h1 : a = x <;> by_cases h2 : b = y <;> by_cases h3 : c = z <;> simp [h1, h2, h3]

section
variable {W : Wc} {c : Fc} {ρ : Env0} {st : St}

theorem VRs.reads {μ : Mu} {own : Addr → Tag} {news : Led0} {h : Heap} (N : ∀ p ∈ news, h.get? p.1 = some p.2) : ∀ {ts : List (Int × Int × Int)} {vs : List Value}, VRs μ own news (ts.map v3) vs → ∃ as, ReadsAll h vs (ts.map d3) as
  | [], _, hv => by cases hv; exact ⟨[], .nil⟩
  | t :: r, _, hv => by
    cases hv with
    | cons h1 h2 =>
      obtain ⟨bs, hb⟩ := VRs.reads N h2
      cases h1
      rename_i a vs n g1 g2 g3
      cases g3 with
      | cons k1 g3 => cases g3 with
        | cons k2 g3 => cases g3 with
          | cons k3 g3 =>
            cases g3; cases k1; cases k2; cases k3
            exact ⟨_, .cons (.tuple (N _ g1) rfl rfl (by simpa using ReadsAll.cons (.int _ _) (.cons (.int _ _) (.cons (.int _ _) .nil)))) hb⟩

theorem lcmp_V {d : Nat} {op : CmpOp} {a b : V} {va vb : Value} {s : Shared} {μ : Mu} {own : Addr → Tag} {news : Led0} {m : Str → Option Value} {Q : V → St → Prop} (ok : c.Ok W d)
    (hR : Rel W c st μ own news m s) (ha : VR μ own news a va) (hb : VR μ own news b vb) (h : lcmpV st op a b fun v => Q v st) :
    wpAny (model W.prog W.w) c.A (compareOp op va vb) (Post W c TA VR μ own news m s Q) (fun _ _ => False) s := by
  obtain ⟨xs, ys, h1, h2, h⟩ := h
  obtain ⟨l, vs, n, rfl, g2, g3⟩ := seq_V hR ha h1
  obtain ⟨l', us, n', rfl, g5, g6⟩ := seq_V hR hb h2
  have hl : s.heap.IsList l vs.toArray := ⟨_, (hR.N _ g2).1, rfl, n, rfl⟩
  have hl' : s.heap.IsList l' us.toArray := ⟨_, (hR.N _ g5).1, rfl, n', rfl⟩
  have hu : c.A.units + 64 < cLine := by
    have := ok.uni
    show c.A.units + 64 < 9900
    omega
  have hu' : c.A.units < cLine := by omega
  rcases h with ⟨rfl, rfl, hq⟩ | ⟨rfl, ns, ms, rfl, rfl, hq⟩ | ⟨rfl, ts, us', rfl, rfl, hq⟩
  · cases g6
    cases xs with
    | nil =>
      cases g3
      exact SeqAt.RcNeAt.lists (e := fun _ => true) hl hl' rfl hu' (fun j h1 _ => absurd h1 (by simp)) W.prog W.w _ _ (Post.now hR (.bool _) rfl rfl hq)
    | cons x r =>
      cases g3
      exact SeqAt.RcNeAt.lists_lengths hl hl' (by simp) hu' W.prog W.w _ _ (Post.now hR (.bool _) rfl rfl hq)
  · exact eq_intsK hl g3.ints hl' g6.ints hu (Post.now hR (.bool _) rfl rfl hq)
  · have N : ∀ p ∈ news, s.heap.get? p.1 = some p.2 := fun p hp => (hR.N p hp).1
    obtain ⟨as, ra⟩ := g3.reads N
    obtain ⟨bs, rb⟩ := g6.reads N
    refine ne_dataH_same (.list (N _ g2) rfl rfl (by simpa using ra)) (.list (N _ g5) rfl rfl (by simpa using rb)) (shaped_d3 ts) (shaped_d3 us') hu (by simp only [SeqAt.noMix]; exact noMix_d3 ts us') ?_
    simp only [PySem.Spec.same]
    rw [same_d3]
    exact Post.now hR (.bool _) rfl rfl hq

theorem TriE_lcmp {d : Nat} {l r : Expr} {op : CmpOp} {p : Pos} {Q : V → St → Prop} (ok : c.Ok W d) (hm : behindInMarks op r = false)
    (h : TriE W c l ρ st fun a st' => TriE W c r ρ st' fun b st'' => lcmpV st'' op a b fun v => Q v st'') : TriE W c (.Compare l [op] [r] p) ρ st Q := by
  intro s μ own news m hR hL
  refine wpAny_Compare1 (two_V h hR hL fun va vb s' a b st' μ' own' news' S R' L' ra rb e q => ?_) hm
  exact wpAny_mono (lcmp_V ok R' ra rb q) (fun _ _ p => p.after S e) fun _ _ x => x
theorem TriT_lcmp {d : Nat} {l r : Expr} {op : CmpOp} {p : Pos} {Q : Bool → St → Prop} (ok : c.Ok W d) (hm : behindInMarks op r = false)
    (h : TriE W c l ρ st fun a st' => TriE W c r ρ st' fun b st'' => lcmpV st'' op a b fun v => truthV v fun t => Q t st'') : TriT W c (.Compare l [op] [r] p) ρ st Q := by
  intro s μ own news m hR hL
  refine wpAny_isTrue_Compare1 (two_V h hR hL fun va vb s' a b st' μ' own' news' S R' L' ra rb e q => ?_) hm
  refine wpAny_mono (lcmp_V (Q := fun v st'' => truthV v fun t => Q t st'') ok R' ra rb q) (fun vc s3 p => ?_) fun _ _ x => x
  obtain ⟨b3, st3, μ3, own3, news3, S3, R3, r3, e3, q3⟩ := p
  exact wpAny_mono (truth_V R3 r3 q3) (fun _ _ p => p.after (S.trans S3) (e.trans e3)) fun _ _ x => x
end
end
-- == M17
section
open PySem PySem.W PySem.Calls PyProof.Rows
set_option linter.unusedVariables false
set_option maxRecDepth 100000

/-- a def of the program's top, by its place -/
noncomputable def stmtAt (i : Nat) : Stmt := (PySem.Challenge.pw_pq0348_01.main.body[i]?).getD (.Pass ⟨0,0,0,0⟩)
noncomputable def bodyOf : Stmt → List Stmt
  | .FunctionDef _ _ b _ _ _ _ _ _ _ => b
  | _ => []
noncomputable def argsOf : Stmt → Arguments
  | .FunctionDef _ a _ _ _ _ _ _ _ _ => a
  | _ => { posonlyargs := [], args := [], vararg := none, kwonlyargs := [], kw_defaults := [], kwarg := none, defaults := [] }
noncomputable def scopeOf : Stmt → Scope
  | .FunctionDef _ _ _ _ _ _ s _ _ _ => s
  | _ => default

/-- the defs and the built-ins that the fragment of the heap holds -/
noncomputable def Defd (W : Wc) (nm : Str) (i : Nat) : Prop :=
  ∃ f, FnAt W.K f nm (argsOf (stmtAt i)) (bodyOf (stmtAt i)) (scopeOf (stmtAt i)) ∧ nsIn W.K mainGlobals nm = some (some (.ref f)) ∧ keepIn W.K (.ref f) = true

theorem lk_of {c : Fc} {sc : Scope} {x : Str} {k : NameKind} (h : c.cs = sc) (e : sc.names.lookup x = some k) : c.cs.names.lookup x = some k := h ▸ e
theorem TriE_lo {W : Wc} {c : Fc} {ρ : Env0} {st : St} {d : Nat} {sc : Scope} {x : Str} {p : Pos} {v : V} {Q : V → St → Prop} (ok : c.Ok W d) (hc : c.cs = sc) (hv : ρ.lookup x = some v) (hk : sc.names.lookup x = some .local) (hq : Q v st) (hd : (x == ("__debug__" : Str)) = false) :
    TriE W c (.Name x p) ρ st Q := TriE_local ok hv (lk_of hc hk) hq hd
theorem env_of {c : Fc} {sc : Scope} (h : c.cs = sc) : c.env = envX c.cn sc c.L c.a c.ccd c.cl := by subst h; rfl

section
theorem if_dec {p : Prop} [Decidable p] {A B : Prop} (h1 : p → A) (h2 : ¬p → B) : (if decide p = true then A else B) := by
  by_cases h : p
  · simpa [h] using h1 h
  · simpa [h] using h2 h
theorem if_ndec {p : Prop} [Decidable p] {A B : Prop} (h1 : ¬p → A) (h2 : p → B) : (if (!decide p) = true then A else B) := by
  by_cases h : p
  · simpa [h] using h2 h
  · simpa [h] using h1 h
theorem if_b {b : Bool} {A B : Prop} (h1 : b = true → A) (h2 : b = false → B) : (if b = true then A else B) := by
  cases b
  · simpa using h2 rfl
  · simpa using h1 rfl
theorem if_f {A B : Prop} (h : B) : (if false = true then A else B) := h
theorem if_t {A B : Prop} (h : A) : (if true = true then A else B) := h
theorem if_nt {A B : Prop} (h : B) : (if (!true) = true then A else B) := h
theorem if_nf {A B : Prop} (h : A) : (if (!false) = true then A else B) := h
theorem if_nb {b : Bool} {A B : Prop} (h1 : b = false → A) (h2 : b = true → B) : (if (!b) = true then A else B) := by
  cases b
  · simpa using h1 rfl
  · simpa using h2 rfl
end

section
variable {W : Wc} {c : Fc} {ρ : Env0} {st : St}
theorem TriX_ifD {t : Expr} {b o : List Stmt} {p : Pos} {Q : FV → Env0 → St → Prop} (h : TriT W c t ρ st fun z st' => if z = true then TriS W c b ρ st' Q else TriS W c o ρ st' Q) : TriX W c (.If t b o p) ρ st Q := TriX_if h

theorem getV_ov {o : Option Nat} {j : Nat} {x : Str} {Q : V → Prop} (h : o = some j) (k : getV st (.node j) x Q) : getV st (ov o) x Q := by subst h; exact k
theorem setV_ov {o : Option Nat} {j : Nat} {x : Str} {v : V} {Q : St → Prop} (h : o = some j) (k : setV st (.node j) x v Q) : setV st (ov o) x v Q := by subst h; exact k

theorem getV_num {i : Nat} {Q : V → Prop} (h : Q (.int (st.num i))) : getV st (.node i) "number" Q := ⟨.num, rfl, h⟩
theorem getV_bg {i : Nat} {Q : V → Prop} (h : Q (.int (st.bg i))) : getV st (.node i) "begin" Q := ⟨.bg, rfl, h⟩
theorem getV_en {i : Nat} {Q : V → Prop} (h : Q (.int (st.en i))) : getV st (.node i) "end" Q := ⟨.en, rfl, h⟩
theorem getV_lim {i : Nat} {Q : V → Prop} (h : Q (.int (st.lim i))) : getV st (.node i) "limit" Q := ⟨.lim, rfl, h⟩
theorem getV_off {i : Nat} {Q : V → Prop} (h : Q (.int (st.off i))) : getV st (.node i) "offset" Q := ⟨.off, rfl, h⟩
theorem getV_red {i : Nat} {Q : V → Prop} (h : Q (.bool (st.red i))) : getV st (.node i) "is_red" Q := ⟨.red, rfl, h⟩
theorem getV_lf {i : Nat} {Q : V → Prop} (h : Q (ov (st.lf i))) : getV st (.node i) "left" Q := ⟨.lf, rfl, h⟩
theorem getV_rt {i : Nat} {Q : V → Prop} (h : Q (ov (st.rt i))) : getV st (.node i) "right" Q := ⟨.rt, rfl, h⟩
theorem getV_pa {i : Nat} {Q : V → Prop} (h : Q (ov (st.pa i))) : getV st (.node i) "parent" Q := ⟨.pa, rfl, h⟩
theorem getV_root {Q : V → Prop} (h : Q (ov st.root)) : getV st .tree "root" Q := ⟨.root, rfl, h⟩
theorem getV_cnt {Q : V → Prop} (h : Q (.int st.cnt)) : getV st .tree "count" Q := ⟨.cnt, rfl, h⟩

noncomputable def St.sBg (st : St) (i : Nat) (x : Int) : St := { st with bg := upd st.bg i x }
noncomputable def St.sEn (st : St) (i : Nat) (x : Int) : St := { st with en := upd st.en i x }
noncomputable def St.sLim (st : St) (i : Nat) (x : Int) : St := { st with lim := upd st.lim i x }
noncomputable def St.sOff (st : St) (i : Nat) (x : Int) : St := { st with off := upd st.off i x }
noncomputable def St.sRed (st : St) (i : Nat) (x : Bool) : St := { st with red := upd st.red i x }
noncomputable def St.sLf (st : St) (i : Nat) (x : Option Nat) : St := { st with lf := upd st.lf i x }
noncomputable def St.sRt (st : St) (i : Nat) (x : Option Nat) : St := { st with rt := upd st.rt i x }
noncomputable def St.sPa (st : St) (i : Nat) (x : Option Nat) : St := { st with pa := upd st.pa i x }
noncomputable def St.sRoot (st : St) (x : Option Nat) : St := { st with root := x }
noncomputable def St.sCnt (st : St) (x : Int) : St := { st with cnt := x }
theorem setV_bg {i : Nat} {x : Int} {Q : St → Prop} (h : Q (st.sBg i x)) : setV st (.node i) "begin" (.int x) Q := ⟨.bg, _, rfl, rfl, h⟩
theorem setV_en {i : Nat} {x : Int} {Q : St → Prop} (h : Q (st.sEn i x)) : setV st (.node i) "end" (.int x) Q := ⟨.en, _, rfl, rfl, h⟩
theorem setV_lim {i : Nat} {x : Int} {Q : St → Prop} (h : Q (st.sLim i x)) : setV st (.node i) "limit" (.int x) Q := ⟨.lim, _, rfl, rfl, h⟩
theorem setV_off {i : Nat} {x : Int} {Q : St → Prop} (h : Q (st.sOff i x)) : setV st (.node i) "offset" (.int x) Q := ⟨.off, _, rfl, rfl, h⟩
theorem setV_red {i : Nat} {x : Bool} {Q : St → Prop} (h : Q (st.sRed i x)) : setV st (.node i) "is_red" (.bool x) Q := ⟨.red, _, rfl, rfl, h⟩
theorem setV_lf {i : Nat} {x : Option Nat} {Q : St → Prop} (h : Q (st.sLf i x)) : setV st (.node i) "left" (ov x) Q := ⟨.lf, _, rfl, by cases x <;> rfl, h⟩
theorem setV_rt {i : Nat} {x : Option Nat} {Q : St → Prop} (h : Q (st.sRt i x)) : setV st (.node i) "right" (ov x) Q := ⟨.rt, _, rfl, by cases x <;> rfl, h⟩
theorem setV_pa {i : Nat} {x : Option Nat} {Q : St → Prop} (h : Q (st.sPa i x)) : setV st (.node i) "parent" (ov x) Q := ⟨.pa, _, rfl, by cases x <;> rfl, h⟩
theorem setV_root {x : Option Nat} {Q : St → Prop} (h : Q (st.sRoot x)) : setV st .tree "root" (ov x) Q := ⟨.root, _, rfl, by cases x <;> rfl, h⟩
theorem setV_cnt {x : Int} {Q : St → Prop} (h : Q (st.sCnt x)) : setV st .tree "count" (.int x) Q := ⟨.cnt, _, rfl, rfl, h⟩
theorem setV_val {a v v' : V} {x : Str} {Q : St → Prop} (e : v = v') (h : setV st a x v' Q) : setV st a x v Q := e ▸ h
theorem ov_some (i : Nat) : V.node i = ov (some i) := rfl
theorem ov_none : V.none = ov none := rfl

theorem truthV_bool {b : Bool} {Q : Bool → Prop} (h : Q b) : truthV (.bool b) Q := ⟨b, rfl, h⟩
theorem cmpV_Is {a b : V} {x y : Option Nat} {Q : V → Prop} (hx : ptr a = some x) (hy : ptr b = some y) (h : Q (.bool (decide (x = y)))) : cmpV .Is a b Q := ⟨x, y, hx, hy, h⟩
theorem cmpV_IsNot {a b : V} {x y : Option Nat} {Q : V → Prop} (hx : ptr a = some x) (hy : ptr b = some y) (h : Q (.bool (!decide (x = y)))) : cmpV .IsNot a b Q := ⟨x, y, hx, hy, h⟩
theorem cmpV_Eq {x y : Int} {Q : V → Prop} (h : Q (.bool (decide (x = y)))) : cmpV .Eq (.int x) (.int y) Q := ⟨x, y, rfl, rfl, h⟩
theorem cmpV_NotEq {x y : Int} {Q : V → Prop} (h : Q (.bool (!decide (x = y)))) : cmpV .NotEq (.int x) (.int y) Q := ⟨x, y, rfl, rfl, h⟩
theorem cmpV_Lt {x y : Int} {Q : V → Prop} (h : Q (.bool (decide (x < y)))) : cmpV .Lt (.int x) (.int y) Q := ⟨x, y, rfl, rfl, h⟩
theorem cmpV_LtE {x y : Int} {Q : V → Prop} (h : Q (.bool (decide (x ≤ y)))) : cmpV .LtE (.int x) (.int y) Q := ⟨x, y, rfl, rfl, h⟩
theorem cmpV_Gt {x y : Int} {Q : V → Prop} (h : Q (.bool (decide (y < x)))) : cmpV .Gt (.int x) (.int y) Q := ⟨x, y, rfl, rfl, h⟩
theorem cmpV_GtE {x y : Int} {Q : V → Prop} (h : Q (.bool (decide (y ≤ x)))) : cmpV .GtE (.int x) (.int y) Q := ⟨x, y, rfl, rfl, h⟩
theorem binV_Add {x y : Int} {Q : V → Prop} (h : Q (.int (x + y))) : binV .Add (.int x) (.int y) Q := ⟨x, y, rfl, rfl, h⟩
theorem binV_Sub {x y : Int} {Q : V → Prop} (h : Q (.int (x - y))) : binV .Sub (.int x) (.int y) Q := ⟨x, y, rfl, rfl, h⟩

theorem leave_ret {n : Nat} {Q : V → St → Prop} {v : V} (hv : nl v = true) (hl : st.lists.length = n) (h : Q v st) : LeaveQ n Q (.ret v) ρ st := by
  have e : leaveSt n st = st := by subst hl; unfold leaveSt; rw [List.take_length]
  refine ⟨?_, ?_⟩
  · cases v <;> first | exact hv | cases hv
  · rw [e]; cases v <;> first | exact h | cases hv
theorem leave_next {n : Nat} {Q : V → St → Prop} (hl : st.lists.length = n) (h : Q .none st) : LeaveQ n Q .next ρ st := by
  have e : leaveSt n st = st := by subst hl; unfold leaveSt; rw [List.take_length]
  show Q .none (leaveSt n st)
  rw [e]; exact h

theorem forT_cons {x : Str} {b : List Stmt} {a : V} {r : List V} {Q : FV → Env0 → St → Prop} (h : TriS W c b (setL ρ x a) st (ForQ (fun ρ st => ForT W c x b r ρ st Q) Q)) : ForT W c x b (a :: r) ρ st Q := h
theorem forT_nil {x : Str} {b : List Stmt} {Q : FV → Env0 → St → Prop} (h : Q .next ρ st) : ForT W c x b [] ρ st Q := h
theorem TriX_forTup {d : Nat} {x : Str} {px p : Pos} {it : Expr} {b : List Stmt} {Q : FV → Env0 → St → Prop} (ok : c.Ok W d) (hx : c.cs.names.lookup x = some .local) (hs : ∀ v, foldedSetIterable it c.env v = pure v)
    (h : TriE W c it ρ st fun a st' => ∃ xs, (a = .fl xs ∨ a = .tup xs) ∧ ForT W c x b xs ρ st' Q) : TriX W c (.For (.Name x px) it b [] p) ρ st Q := TriX_for ok hx hs h
end

theorem sBg_en (st : St) (i : Nat) (x : Int) : (st.sBg i x).en = st.en := rfl
theorem sBg_lim (st : St) (i : Nat) (x : Int) : (st.sBg i x).lim = st.lim := rfl
theorem sBg_off (st : St) (i : Nat) (x : Int) : (st.sBg i x).off = st.off := rfl
theorem sBg_lf (st : St) (i : Nat) (x : Int) : (st.sBg i x).lf = st.lf := rfl
theorem sBg_rt (st : St) (i : Nat) (x : Int) : (st.sBg i x).rt = st.rt := rfl
theorem sEn_lim (st : St) (i : Nat) (x : Int) : (st.sEn i x).lim = st.lim := rfl
theorem sEn_off (st : St) (i : Nat) (x : Int) : (st.sEn i x).off = st.off := rfl
theorem sEn_lf (st : St) (i : Nat) (x : Int) : (st.sEn i x).lf = st.lf := rfl
theorem sEn_rt (st : St) (i : Nat) (x : Int) : (st.sEn i x).rt = st.rt := rfl
theorem sLim_lf (st : St) (i : Nat) (x : Int) : (st.sLim i x).lf = st.lf := rfl
theorem sLim_rt (st : St) (i : Nat) (x : Int) : (st.sLim i x).rt = st.rt := rfl
theorem sLim_pa (st : St) (i : Nat) (x : Int) : (st.sLim i x).pa = st.pa := rfl
theorem sLf_rt (st : St) (i : Nat) (x : Option Nat) : (st.sLf i x).rt = st.rt := rfl
theorem sLf_pa (st : St) (i : Nat) (x : Option Nat) : (st.sLf i x).pa = st.pa := rfl
theorem sRt_lf (st : St) (i : Nat) (x : Option Nat) : (st.sRt i x).lf = st.lf := rfl
theorem sRt_pa (st : St) (i : Nat) (x : Option Nat) : (st.sRt i x).pa = st.pa := rfl
theorem sPa_pa (st : St) (i : Nat) (x : Option Nat) : (st.sPa i x).pa = upd st.pa i x := rfl
theorem setL_lf (st : St) (i : Nat) (x : List V) : (st.setL i x).lf = st.lf := rfl
theorem setL_rt (st : St) (i : Nat) (x : List V) : (st.setL i x).rt = st.rt := rfl
theorem upd_self {α : Type} (f : Nat → α) (i : Nat) (x : α) : upd f i x i = x := if_pos rfl
theorem upd_ne {α : Type} (f : Nat → α) (i : Nat) (x : α) {j : Nat} (h : j ≠ i) : upd f i x j = f j := if_neg h

section
variable {W : Wc} {c : Fc} {ρ : Env0} {st : St}
theorem TriE_max2 {d : Nat} {p p' : Pos} {e1 e2 : Expr} {Q : V → St → Prop} (ok : c.Ok W d) (hk : c.cs.names.lookup ("max" : Str) = some .globalImplicit) (hK : nsIn W.K mainGlobals "max" = some none)
    (he : starEach [e1, e2] c.env = (false, eval e1 c.env) :: starEach [e2] c.env) (he2 : starEach [e2] c.env = (false, eval e2 c.env) :: starEach [] c.env) (hp : (backTo p (starEach [e2] c.env)).any (·.1) = false)
    (h : TriE W c e1 ρ st fun a st' => TriE W c e2 ρ st' fun b st'' => ∃ x y, a = .int x ∧ b = .int y ∧ Q (.int (max x y)) st'') : TriE W c (.Call (.Name "max" p') [e1, e2] [] p) ρ st Q := by
  refine TriE_builtin (id := "max") ok hk hK boot_max (by decide) he hp (TriEs_cons he (h.mono fun a st' k => TriEs_cons he2 (k.mono fun b st'' q => TriEs_nil ?_)))
  obtain ⟨x, y, rfl, rfl, q⟩ := q
  intro s μ own news m vs hR hv
  cases hv with
  | cons h1 h2 => cases h2 with
    | cons h2 h3 => cases h3; exact max2_V ok hR h1 h2 rfl rfl q
theorem TriE_b1 {d : Nat} {nm : Str} {id : String} {p p' : Pos} {e1 : Expr} {Q : V → St → Prop} (ok : c.Ok W d) (hk : c.cs.names.lookup nm = some .globalImplicit) (hK : nsIn W.K mainGlobals nm = some none)
    (hb : bootBuiltins nm = some (.builtin id)) (hnn : nm ≠ "__name__") (hd : (nm == ("__debug__" : Str)) = false) (he : starEach [e1] c.env = (false, eval e1 c.env) :: starEach [] c.env)
    (h : TriE W c e1 ρ st fun a st' => ∀ s μ own news m va, Rel W c st' μ own news m s → VR μ own news a va → wpAny (model W.prog W.w) c.A (call (.builtin id) [va]) (Post W c TA VR μ own news m s Q) (fun _ _ => False) s) :
    TriE W c (.Call (.Name nm p') [e1] [] p) ρ st Q := by
  refine TriE_builtin (id := id) ok hk hK hb hnn he rfl (TriEs_cons he (h.mono fun a st' k => TriEs_nil ?_)) hd
  intro s μ own news m vs hR hv
  cases hv with
  | cons h1 h2 => cases h2; exact k s μ own news m _ hR h1
theorem TriE_len {d : Nat} {p p' : Pos} {e1 : Expr} {Q : V → St → Prop} (ok : c.Ok W d) (hk : c.cs.names.lookup ("len" : Str) = some .globalImplicit) (hK : nsIn W.K mainGlobals "len" = some none) (he : starEach [e1] c.env = (false, eval e1 c.env) :: starEach [] c.env)
    (h : TriE W c e1 ρ st fun a st' => ∃ n : Nat, ((∃ xs, seqV st' a xs ∧ xs.length = n) ∨ (a = .dict ∧ st'.places.length = n)) ∧ n ≤ 1000 ∧ Q (.int n) st') : TriE W c (.Call (.Name "len" p') [e1] [] p) ρ st Q :=
  TriE_b1 ok hk hK boot_len (by decide) (by decide) he (h.mono fun a st' ⟨n, h1, h2, q⟩ s μ own news m va hR hv => len_V hR hv h1 h2 q)
theorem TriE_max1 {d : Nat} {p p' : Pos} {e1 : Expr} {Q : V → St → Prop} (ok : c.Ok W d) (hk : c.cs.names.lookup ("max" : Str) = some .globalImplicit) (hK : nsIn W.K mainGlobals "max" = some none) (he : starEach [e1] c.env = (false, eval e1 c.env) :: starEach [] c.env)
    (h : TriE W c e1 ρ st fun a st' => ∃ ns : List Int, seqV st' a (ns.map V.int) ∧ ns ≠ [] ∧ ∀ M, M ∈ ns → (∀ a ∈ ns, a ≤ M) → Q (.int M) st') : TriE W c (.Call (.Name "max" p') [e1] [] p) ρ st Q :=
  TriE_b1 ok hk hK boot_max (by decide) (by decide) he (h.mono fun a st' ⟨n, h1, h2, q⟩ s μ own news m va hR hv => maxl_V ok hR hv h1 h2 q)
theorem TriE_min1 {d : Nat} {p p' : Pos} {e1 : Expr} {Q : V → St → Prop} (ok : c.Ok W d) (hk : c.cs.names.lookup ("min" : Str) = some .globalImplicit) (hK : nsIn W.K mainGlobals "min" = some none) (he : starEach [e1] c.env = (false, eval e1 c.env) :: starEach [] c.env)
    (h : TriE W c e1 ρ st fun a st' => ∃ ns : List Int, seqV st' a (ns.map V.int) ∧ ns ≠ [] ∧ ∀ M, M ∈ ns → (∀ a ∈ ns, M ≤ a) → Q (.int M) st') : TriE W c (.Call (.Name "min" p') [e1] [] p) ρ st Q :=
  TriE_b1 ok hk hK boot_min (by decide) (by decide) he (h.mono fun a st' ⟨n, h1, h2, q⟩ s μ own news m va hR hv => minl_V ok hR hv h1 h2 q)
theorem TriE_sorted {d : Nat} {p p' : Pos} {e1 : Expr} {Q : V → St → Prop} (ok : c.Ok W d) (hk : c.cs.names.lookup ("sorted" : Str) = some .globalImplicit) (hK : nsIn W.K mainGlobals "sorted" = some none) (he : starEach [e1] c.env = (false, eval e1 c.env) :: starEach [] c.env)
    (h : TriE W c e1 ρ st fun a st' => (∃ ns : List Int, seqV st' a (ns.map V.int) ∧ ns.length < 64 ∧ ∀ ms : List Int, ms.Perm ns → ms.Pairwise (· ≤ ·) → Q (.fl (ms.map V.int)) st') ∨
      (a = .dict ∧ st'.places.length < 64 ∧ ∀ ms : List Int, ms.Perm (st'.places.map (·.1)) → ms.Pairwise (· ≤ ·) → Q (.fl (ms.map V.int)) st')) : TriE W c (.Call (.Name "sorted" p') [e1] [] p) ρ st Q :=
  TriE_b1 ok hk hK boot_sorted (by decide) (by decide) he (h.mono fun a st' q s μ own news m va hR hv => by
    rcases q with ⟨n, h1, h2, q⟩ | ⟨h1, h2, q⟩
    · exact sorted_V hR hv h1 h2 q
    · exact sortedDict_V ok hR hv h1 h2 q)
end
end
-- @tac
local macro_rules | `(tactic| walk_at "ov side") => `(tactic| first | with_reducible assumption | exact lk_of ‹Fc.cs _ = _› (Eq.refl (some _)) | rfl | decide | (intros; rfl) | (rw [‹Fc.cs _ = _›]; rfl) | (rw [env_of ‹Fc.cs _ = _›]; rfl) | (exact Fc.Ok.le ‹_› (by decide)))
local macro_rules | `(tactic| walk_at "ov ptr") => `(tactic| first | exact ptr_ov _ | exact rfl | exact (ptr_ov _).trans (congrArg some (by assumption)))
local macro_rules | `(tactic| walk_at "ov") => `(tactic| first
  | with_reducible (first | refine TriS_cons ?_ | refine TriS_nil ?_)
  | ((with_reducible refine' TriE_lo (by assumption) (by assumption) ?hv ?hk ?_ ?hd); (case hv => exact Eq.refl (some _)); (case hk => exact Eq.refl (some _)); (case hd => exact Eq.refl false))
  | ((with_reducible refine' TriE_cell (by assumption) ?hv ?hk ?hu ?_ ?hd); (case hv => exact rfl); (case hk => walk_at "ov side"); (case hu => (intro h; cases h)); (case hd => decide))
  | ((with_reducible refine TriE_attr (by assumption) (by assumption) ?he ?_); (case he => rfl))
  | with_reducible (first | refine TriE_int ?_ | refine TriE_none ?_ | refine TriE_bool ?_)
  | ((with_reducible refine TriE_cmp ?hm ?_); (case hm => rfl))
  | ((with_reducible refine TriT_cmp ?hm ?_); (case hm => rfl))
  | with_reducible (first | refine TriT_not ?_ | refine TriT_and1 ?_ | refine TriT_and ?_ | refine TriT_or1 ?_ | refine TriT_or ?_ | refine TriT_name ?_ | refine TriT_attr ?_ | refine TriT_call ?_ | refine TriE_bin ?_ | refine TriE_ifexp ?_ | refine TriE_bool1 ?_ | refine TriE_and ?_ | refine TriE_or ?_ | refine TriE_not ?_ | refine TriX_if ?_ | refine TriX_ret ?_ | refine TriX_ret0 ?_)
  | ((with_reducible refine TriX_name (by assumption) ?hk ?hs ?_); (case hk => walk_at "ov side"); (case hs => rfl))
  | ((with_reducible refine TriX_attr (by assumption) (by assumption) ?hs ?_); (case hs => rfl))
  | ((with_reducible refine TriX_expr ?hs ?_ ?hi); (case hs => rfl); (case hi => (rw [env_of ‹Fc.cs _ = _›]; rfl)))
  | with_reducible refine TriEs_nil ?_
  | ((with_reducible refine TriEs_cons ?he ?_); (case he => rfl))
  | ((with_reducible refine TriE_call ?ok (by assumption) ?hk ?he ?hp ?_ ?hd ?hc); (case ok => walk_at "ov side"); (case hk => walk_at "ov side"); (case he => rfl); (case hp => rfl); (case hd => decide); (case hc => rfl))
  | with_reducible (first | refine getV_off ?_ | refine getV_lf ?_ | refine getV_rt ?_ | refine getV_pa ?_ | refine getV_red ?_ | refine getV_bg ?_ | refine getV_en ?_ | refine getV_lim ?_ | refine getV_num ?_ | refine getV_root ?_ | refine getV_cnt ?_ | refine setV_off ?_ | refine setV_bg ?_ | refine setV_en ?_ | refine setV_lim ?_ | refine setV_red ?_ | refine setV_cnt ?_ | refine setV_lf ?_ | refine setV_rt ?_ | refine setV_pa ?_ | refine setV_root ?_ | refine truthV_bool ?_)
  | ((with_reducible refine' cmpV_Is ?hx ?hy ?_); (case hx => walk_at "ov ptr"); (case hy => walk_at "ov ptr"))
  | ((with_reducible refine' cmpV_IsNot ?hx ?hy ?_); (case hx => walk_at "ov ptr"); (case hy => walk_at "ov ptr"))
  | with_reducible (first | refine cmpV_Eq ?_ | refine cmpV_NotEq ?_ | refine cmpV_Lt ?_ | refine cmpV_LtE ?_ | refine cmpV_Gt ?_ | refine cmpV_GtE ?_ | refine binV_Add ?_ | refine binV_Sub ?_)
  | ((with_reducible refine setV_val (ov_some _) ?_); first | with_reducible refine setV_lf ?_ | with_reducible refine setV_rt ?_ | with_reducible refine setV_pa ?_ | with_reducible refine setV_root ?_)
  | ((with_reducible refine setV_val ov_none ?_); first | with_reducible refine setV_lf ?_ | with_reducible refine setV_rt ?_ | with_reducible refine setV_pa ?_ | with_reducible refine setV_root ?_)
  | ((with_reducible refine' getV_ov ?ho ?_); (case ho => first | exact rfl | assumption))
  | ((with_reducible refine' setV_ov ?ho ?_); (case ho => first | exact rfl | assumption))
  | ((with_reducible refine TriE_max2 (by assumption) ?hk (by assumption) ?he ?he2 ?hp ?_); (case hk => walk_at "ov side"); (case he => rfl); (case he2 => rfl); (case hp => rfl))
  | ((with_reducible refine TriE_len (by assumption) ?hk (by assumption) ?he ?_); (case hk => walk_at "ov side"); (case he => rfl))
  | (with_reducible show TriS _ _ _ _ _ _; first | with_reducible refine TriS_cons ?_ | with_reducible refine TriS_nil ?_)
  | with_reducible refine TriE_tuple ?_
  | ((with_reducible refine TriE_sub ?hs ?_); (case hs => (intros; rfl)))
  | ((with_reducible refine TriX_sub ?hs ?_); (case hs => rfl))
  | ((with_reducible refine ⟨Nat.le_of_ble_eq_true ?hl, ?_⟩); (case hl => rfl))
  | with_reducible (first | refine forT_cons ?_ | refine forT_nil ?_)
  | (with_reducible show ForT _ _ _ _ _ _ _ _; first | with_reducible refine forT_cons ?_ | with_reducible refine forT_nil ?_)
  | with_reducible (first | refine if_f ?_ | refine if_t ?_ | refine if_nf ?_ | refine if_nt ?_)
  )
local macro_rules | `(tactic| walk_at "ovs") => `(tactic| repeat walk_at "ov")
-- == M18
section
open PySem PySem.W PySem.Calls PyProof.Rows
set_option linter.unusedVariables false
set_option maxRecDepth 100000
set_option maxHeartbeats 4000000
section
variable {W : Wc} {c : Fc} {ρ : Env0} {st : St}

theorem Fn.mk {W : Wc} {d : Nat} {nm : Str} {i : Nat} {spec : FnSpec} (D : Defd W nm i) (h : ∀ f, FnAt W.K f nm (argsOf (stmtAt i)) (bodyOf (stmtAt i)) (scopeOf (stmtAt i)) → FnOK W d f spec) : Fn W d nm spec := by
  obtain ⟨f, h1, h2, h3⟩ := D
  exact ⟨f, h f h1, h2, h3⟩

noncomputable def offAdd (st : St) (o : Option Nat) (i : Nat) : St :=
  match o with
  | none => st
  | some j => st.sOff j (st.off j + st.off i)
noncomputable def HD (st : St) (i : Nat) : St :=
  if st.off i = 0 then st else
  let s1 := st.sBg i (st.bg i + st.off i)
  let s2 := s1.sEn i (s1.en i + s1.off i)
  let s3 := s2.sLim i (s2.lim i + s2.off i)
  (offAdd (offAdd s3 (st.lf i) i) (st.rt i) i).sOff i 0
inductive handDownS (xs : List V) (st : St) (Q : V → St → Prop) : Prop
  | mk : ∀ i, (xs = [.node i]) → (Q .none (HD st i)) → handDownS xs st Q

theorem hand_down_body {d : Nat} {i : Nat} {Q : V → St → Prop} (wk : W.Ok) (ok : c.Ok W d) (hc : c.cs = scopeOf (stmtAt 3)) (hq : Q .none (HD st i)) :
  TriS W c (bodyOf (stmtAt 3)) [("node", .node i)] st (LeaveQ st.lists.length Q) := by
  refine TriS_cons ?_
  walk_at "ovs"
  apply if_dec <;> intro h
  · walk_at "ovs"
    refine leave_ret rfl rfl ?_
    unfold HD at hq; rw [if_pos h] at hq; exact hq
  · walk_at "ovs"
    refine TriX_for ok (by walk_at "ov side") (by intro v; rfl) ?_
    walk_at "ovs"
    refine ⟨_, .inr rfl, ?_⟩
    unfold HD at hq
    rw [if_neg h] at hq
    dsimp only at hq
    rcases hl : st.lf i with _ | l <;> rcases hr : st.rt i with _ | r <;> (rw [hl, hr] at hq; simp only [sBg_en, sBg_off, sEn_lim, sBg_lim, sEn_off, sLim_lf, sEn_lf, sBg_lf, sLim_rt, sEn_rt, sBg_rt]; rw [hl, hr]; walk_at "ovs"; apply if_ndec <;> intro h1 <;> first | exact absurd rfl h1 | cases h1 | skip) <;> walk_at "ovs" <;> (apply if_ndec <;> intro h1 <;> first | exact absurd rfl h1 | cases h1 | skip) <;> walk_at "ovs" <;> exact leave_next rfl hq
theorem fn_hand_down (wk : W.Ok) (D : Defd W "hand_down" 3) : Fn W 0 "hand_down" handDownS :=
  Fn.mk D fun f hf => FnOK.of_body (ns := ["node"]) hf (fun _ _ _ _ _ => args1 fun _ => rfl) (by decide) (by decide) (by rintro xs st Q ⟨i, rfl, -⟩; rfl)
    (by rintro c st xs Q ok hc ⟨i, rfl, hq⟩; exact hand_down_body wk ok hc hq) (by decide) rfl rfl rfl

noncomputable def redO (st : St) : Option Nat → Bool
  | none => false
  | some i => st.red i
inductive isRedS (xs : List V) (st : St) (Q : V → St → Prop) : Prop
  | mk : ∀ o, (xs = [ov o]) → (Q (.bool (redO st o)) st) → isRedS xs st Q
theorem is_red_body {d : Nat} {o : Option Nat} {Q : V → St → Prop} (wk : W.Ok) (ok : c.Ok W d) (hc : c.cs = scopeOf (stmtAt 10)) (hq : Q (.bool (redO st o)) st) :
  TriS W c (bodyOf (stmtAt 10)) [("node", ov o)] st (LeaveQ st.lists.length Q) := by
  refine TriS_cons ?_
  rcases o with _ | i
  · walk_at "ovs"
    apply if_ndec <;> intro h
    · exact absurd rfl h
    · exact leave_ret rfl rfl hq
  · walk_at "ovs"
    apply if_ndec <;> intro h
    · walk_at "ovs"
      exact leave_ret rfl rfl hq
    · cases h
theorem fn_is_red (wk : W.Ok) (D : Defd W "is_red" 10) : Fn W 0 "is_red" isRedS :=
  Fn.mk D fun f hf => FnOK.of_body (ns := ["node"]) hf (fun _ _ _ _ _ => args1 fun _ => rfl) (by decide) (by decide) (by rintro xs st Q ⟨i, rfl, -⟩; rfl)
    (by rintro c st xs Q ok hc ⟨i, rfl, hq⟩; exact is_red_body wk ok hc hq) (by decide) rfl rfl rfl

noncomputable def mxo (st : St) (m : Int) : Option Nat → Int
  | none => m
  | some j => max m (st.lim j + st.off j)
noncomputable def gre (st : St) (i : Nat) : Int := mxo st (mxo st (st.en i) (st.lf i)) (st.rt i)
inductive greS (xs : List V) (st : St) (Q : V → St → Prop) : Prop
  | mk : ∀ i, (xs = [.node i]) → (Q (.int (gre st i)) st) → greS xs st Q
theorem gre_body {d : Nat} {i : Nat} {Q : V → St → Prop} (wk : W.Ok) (ok : c.Ok W d) (hc : c.cs = scopeOf (stmtAt 5)) (bm : nsIn W.K mainGlobals "max" = some none) (hq : Q (.int (gre st i)) st) :
  TriS W c (bodyOf (stmtAt 5)) [("node", .node i)] st (LeaveQ st.lists.length Q) := by
  refine TriS_cons ?_
  walk_at "ovs"
  refine TriX_for ok (by walk_at "ov side") (by intro v; rfl) ?_
  walk_at "ovs"
  refine ⟨_, .inr rfl, ?_⟩
  unfold gre at hq
  rcases hl : st.lf i with _ | l <;> rcases hr : st.rt i with _ | r
  · rw [hl, hr] at hq
    walk_at "ovs"
    apply if_ndec <;> intro h1
    · exact absurd rfl h1
    walk_at "ovs"
    apply if_ndec <;> intro h1
    · exact absurd rfl h1
    walk_at "ovs"
    exact leave_ret rfl rfl hq
  · rw [hl, hr] at hq
    walk_at "ovs"
    apply if_ndec <;> intro h1
    · exact absurd rfl h1
    walk_at "ovs"
    apply if_ndec <;> intro h1
    · walk_at "ovs"
      refine ⟨_, _, rfl, rfl, ?_⟩
      walk_at "ovs"
      exact leave_ret rfl rfl hq
    · cases h1
  · rw [hl, hr] at hq
    walk_at "ovs"
    apply if_ndec <;> intro h1
    · walk_at "ovs"
      refine ⟨_, _, rfl, rfl, ?_⟩
      walk_at "ovs"
      apply if_ndec <;> intro h1
      · exact absurd rfl h1
      walk_at "ovs"
      exact leave_ret rfl rfl hq
    · cases h1
  · rw [hl, hr] at hq
    walk_at "ovs"
    apply if_ndec <;> intro h1
    · walk_at "ovs"
      refine ⟨_, _, rfl, rfl, ?_⟩
      walk_at "ovs"
      apply if_ndec <;> intro h1
      · walk_at "ovs"
        refine ⟨_, _, rfl, rfl, ?_⟩
        walk_at "ovs"
        exact leave_ret rfl rfl hq
      · cases h1
    · cases h1
theorem fn_gre (wk : W.Ok) (bm : nsIn W.K mainGlobals "max" = some none) (D : Defd W "greatest_end" 5) : Fn W 0 "greatest_end" greS :=
  Fn.mk D fun f hf => FnOK.of_body (ns := ["node"]) hf (fun _ _ _ _ _ => args1 fun _ => rfl) (by decide) (by decide) (by rintro xs st Q ⟨i, rfl, -⟩; rfl)
    (by rintro c st xs Q ok hc ⟨i, rfl, hq⟩; exact gre_body wk ok hc bm hq) (by decide) rfl rfl rfl

noncomputable def hangA (st : St) (p : Option Nat) (n : Nat) (o : Option Nat) : St :=
  match p with
  | none => st.sRoot o
  | some q => if st.lf q = some n then st.sLf q o else st.sRt q o
noncomputable def hangB (st : St) (p : Option Nat) (o : Option Nat) : St :=
  match o with
  | none => st
  | some j => st.sPa j p
noncomputable def hangS (st : St) (p : Option Nat) (n : Nat) (o : Option Nat) : St := hangB (hangA st p n o) p o
inductive hangF (xs : List V) (st : St) (Q : V → St → Prop) : Prop
  | mk : ∀ p n o, (xs = [.tree, ov p, .node n, ov o]) → (Q .none (hangS st p n o)) → hangF xs st Q
theorem hang_body {d n : Nat} {p o : Option Nat} {Q : V → St → Prop} (wk : W.Ok) (ok : c.Ok W d) (hc : c.cs = scopeOf (stmtAt 7)) (hq : Q .none (hangS st p n o)) :
  TriS W c (bodyOf (stmtAt 7)) [("tree", .tree), ("parent", ov p), ("node", .node n), ("other", ov o)] st (LeaveQ st.lists.length Q) := by
  unfold hangS at hq
  refine TriS_cons ?_
  rcases p with _ | q <;> rcases o with _ | j
  · walk_at "ovs"
    apply if_dec <;> intro h1
    · walk_at "ovs"
      apply if_ndec <;> intro h2
      · exact absurd rfl h2
      walk_at "ovs"
      exact leave_next rfl hq
    · exact absurd rfl h1
  · walk_at "ovs"
    apply if_dec <;> intro h1
    · walk_at "ovs"
      apply if_ndec <;> intro h2
      · walk_at "ovs"
        exact leave_next rfl hq
      · cases h2
    · exact absurd rfl h1
  all_goals
    walk_at "ovs"
    apply if_dec <;> intro h1
    · cases h1
    walk_at "ovs"
    unfold hangA at hq
    dsimp only at hq
    apply if_dec <;> intro h2
    · rw [if_pos h2] at hq
      walk_at "ovs"
      apply if_ndec <;> intro h3
      · first | exact absurd rfl h3 | (walk_at "ovs"; exact leave_next rfl hq)
      · first | (cases h3; done) | (walk_at "ovs"; exact leave_next rfl hq)
    · rw [if_neg h2] at hq
      walk_at "ovs"
      apply if_ndec <;> intro h3
      · first | exact absurd rfl h3 | (walk_at "ovs"; exact leave_next rfl hq)
      · first | (cases h3; done) | (walk_at "ovs"; exact leave_next rfl hq)
theorem hangB_lists {p o : Option Nat} : (hangB st p o).lists = st.lists := by cases o <;> rfl
theorem hangA_lists {p o : Option Nat} {n : Nat} : (hangA st p n o).lists = st.lists := by
  cases p with
  | none => rfl
  | some q => unfold hangA; dsimp only; split <;> rfl
theorem hangS_lists {p o : Option Nat} {n : Nat} : (hangS st p n o).lists = st.lists := hangB_lists.trans hangA_lists
theorem fn_hang (wk : W.Ok) (D : Defd W "hang" 7) : Fn W 0 "hang" hangF :=
  Fn.mk D fun f hf => FnOK.of_body (ns := ["tree", "parent", "node", "other"]) hf (fun _ _ _ _ _ => args4 fun _ _ _ _ => rfl) (by decide) (by decide) (by rintro xs st Q ⟨p, n, o, rfl, -⟩; rfl)
    (by rintro c st xs Q ok hc ⟨p, n, o, rfl, hq⟩; exact hang_body wk ok hc hq) (by decide) rfl rfl rfl

inductive siblingS (xs : List V) (st : St) (Q : V → St → Prop) : Prop
  | mk : ∀ p b, (xs = [.node p, .bool b]) → (Q (ov (if b = true then st.rt p else st.lf p)) st) → siblingS xs st Q
theorem sibling_body {d p : Nat} {b : Bool} {Q : V → St → Prop} (wk : W.Ok) (ok : c.Ok W d) (hc : c.cs = scopeOf (stmtAt 18)) (hq : Q (ov (if b = true then st.rt p else st.lf p)) st) :
  TriS W c (bodyOf (stmtAt 18)) [("parent", .node p), ("is_left", .bool b)] st (LeaveQ st.lists.length Q) := by
  refine TriS_cons ?_
  walk_at "ovs"
  apply if_b <;> intro h <;> subst h <;> walk_at "ovs" <;> exact leave_ret nl_ov rfl hq
theorem fn_sibling (wk : W.Ok) (D : Defd W "sibling_of" 18) : Fn W 0 "sibling_of" siblingS :=
  Fn.mk D fun f hf => FnOK.of_body (ns := ["parent", "is_left"]) hf (fun _ _ _ _ _ => args2 fun _ _ => rfl) (by decide) (by decide) (by rintro xs st Q ⟨p, b, rfl, -⟩; rfl)
    (by rintro c st xs Q ok hc ⟨p, b, rfl, hq⟩; exact sibling_body wk ok hc hq) (by decide) rfl rfl rfl

theorem HD_zero {i : Nat} (h : st.off i = 0) : HD st i = st := if_pos h
theorem ovS (i : Nat) : ov (some i) = V.node i := rfl
theorem ovN : ov none = V.none := rfl
theorem hd_i {a : V} {i : Nat} {Q : V → St → Prop} (ha : ptr a = some (some i)) (h : Q .none (HD st i)) : handDownS [a] st Q := ⟨i, by rw [ov_ptr ha]; rfl, h⟩
theorem hd_0 {a : V} {i : Nat} {Q : V → St → Prop} (ha : ptr a = some (some i)) (h0 : st.off i = 0) (h : Q .none st) : handDownS [a] st Q := ⟨i, by rw [ov_ptr ha]; rfl, by rw [HD_zero h0]; exact h⟩
theorem gre_i {a : V} {i : Nat} {Q : V → St → Prop} (ha : ptr a = some (some i)) (h : Q (.int (gre st i)) st) : greS [a] st Q := ⟨i, by rw [ov_ptr ha]; rfl, h⟩
theorem isRed_i {a : V} {o : Option Nat} {Q : V → St → Prop} (ha : ptr a = some o) (h : Q (.bool (redO st o)) st) : isRedS [a] st Q := ⟨o, by rw [ov_ptr ha], h⟩
theorem hang_i {a b e : V} {p o : Option Nat} {n : Nat} {Q : V → St → Prop} (ha : ptr a = some p) (hb : ptr b = some (some n)) (he : ptr e = some o) (h : Q .none (hangS st p n o)) : hangF [.tree, a, b, e] st Q :=
  ⟨p, n, o, by rw [ov_ptr ha, ov_ptr hb, ov_ptr he]; rfl, h⟩
theorem sibling_i {a : V} {p : Nat} {b : Bool} {Q : V → St → Prop} (ha : ptr a = some (some p)) (h : Q (ov (if b = true then st.rt p else st.lf p)) st) : siblingS [a, .bool b] st Q := ⟨p, b, by rw [ov_ptr ha]; rfl, h⟩
end
end
local macro_rules | `(tactic| walk_at "ov") => `(tactic| first
  | ((with_reducible refine' gre_i ?ha ?_); (case ha => walk_at "ov ptr"))
  | ((with_reducible refine' isRed_i ?ha ?_); (case ha => walk_at "ov ptr"))
  | ((with_reducible refine' hang_i ?ha ?hb ?he ?_); (case ha => walk_at "ov ptr"); (case hb => walk_at "ov ptr"); (case he => walk_at "ov ptr"))
  | ((with_reducible refine' sibling_i ?ha ?_); (case ha => walk_at "ov ptr"))
  | ((with_reducible refine' hd_0 ?ha ?h0 ?_); (case ha => walk_at "ov ptr"); (case h0 => assumption))
  )
-- == M19
section
open PySem PySem.W PySem.Calls PyProof.Rows
set_option linter.unusedVariables false
set_option maxRecDepth 100000
set_option maxHeartbeats 4000000
section
variable {W : Wc} {c : Fc} {ρ : Env0} {st : St}

noncomputable def TL (st : St) (x y : Nat) : St :=
  let s2 := st.sRt x (st.lf y)
  let s3 := hangB s2 (some x) (st.lf y)
  let s4 := hangS s3 (s3.pa x) x (some y)
  let s6 := (s4.sLf y (some x)).sPa x (some y)
  let s7 := s6.sLim x (gre s6 x)
  s7.sLim y (gre s7 y)
inductive turnLS (xs : List V) (st : St) (Q : V → St → Prop) : Prop
  | mk : ∀ x y, (xs = [.tree, .node x]) → (st.rt x = some y) → (st.off x = 0) → (st.off y = 0) → (Q .none (TL st x y)) → turnLS xs st Q
theorem turn_left_body {x y : Nat} {Q : V → St → Prop} (wk : W.Ok) (ok : c.Ok W 1) (hc : c.cs = scopeOf (stmtAt 8)) (H1 : Fn W 0 "hand_down" handDownS) (H2 : Fn W 0 "hang" hangF) (H3 : Fn W 0 "greatest_end" greS)
  (hy : st.rt x = some y) (ox : st.off x = 0) (oy : st.off y = 0) (hq : Q .none (TL st x y)) :
  TriS W c (bodyOf (stmtAt 8)) [("tree", .tree), ("node", .node x)] st (LeaveQ st.lists.length Q) := by
  refine TriS_cons ?_
  walk_at "ovs"
  simp only [hy, ovS]
  walk_at "ovs"
  unfold TL at hq
  dsimp only at hq
  simp only [sRt_lf]
  obtain ⟨o, hl⟩ : ∃ o, st.lf y = o := ⟨_, rfl⟩
  rcases o with _ | l
  · rw [hl] at hq
    apply if_ndec <;> intro h1
    · exact absurd hl h1
    walk_at "ovs"
    rw [hl]
    exact leave_next (congrArg List.length hangS_lists) hq
  · rw [hl] at hq
    apply if_ndec <;> intro h1
    · walk_at "ovs"
      simp only [sPa_pa, sRt_pa]
      rw [hl]
      walk_at "ovs"
      exact leave_next (congrArg List.length hangS_lists) hq
    · rw [hl] at h1; cases h1
theorem fn_turn_left (wk : W.Ok) (D : Defd W "turn_left" 8) (H1 : Fn W 0 "hand_down" handDownS) (H2 : Fn W 0 "hang" hangF) (H3 : Fn W 0 "greatest_end" greS) : Fn W 1 "turn_left" turnLS :=
  Fn.mk D fun f hf => FnOK.of_body (ns := ["tree", "node"]) hf (fun _ _ _ _ _ => args2 fun _ _ => rfl) (by decide) (by decide) (by rintro xs st Q ⟨x, y, rfl, -⟩; rfl)
    (by rintro c st xs Q ok hc ⟨x, y, rfl, h1, h2, h3, hq⟩; exact turn_left_body wk ok hc H1 H2 H3 h1 h2 h3 hq) (by decide) rfl rfl rfl
noncomputable def TR (st : St) (x y : Nat) : St :=
  let s2 := st.sLf x (st.rt y)
  let s3 := hangB s2 (some x) (st.rt y)
  let s4 := hangS s3 (s3.pa x) x (some y)
  let s6 := (s4.sRt y (some x)).sPa x (some y)
  let s7 := s6.sLim x (gre s6 x)
  s7.sLim y (gre s7 y)
inductive turnRS (xs : List V) (st : St) (Q : V → St → Prop) : Prop
  | mk : ∀ x y, (xs = [.tree, .node x]) → (st.lf x = some y) → (st.off x = 0) → (st.off y = 0) → (Q .none (TR st x y)) → turnRS xs st Q
theorem turn_right_body {x y : Nat} {Q : V → St → Prop} (wk : W.Ok) (ok : c.Ok W 1) (hc : c.cs = scopeOf (stmtAt 9)) (H1 : Fn W 0 "hand_down" handDownS) (H2 : Fn W 0 "hang" hangF) (H3 : Fn W 0 "greatest_end" greS)
  (hy : st.lf x = some y) (ox : st.off x = 0) (oy : st.off y = 0) (hq : Q .none (TR st x y)) :
  TriS W c (bodyOf (stmtAt 9)) [("tree", .tree), ("node", .node x)] st (LeaveQ st.lists.length Q) := by
  refine TriS_cons ?_
  walk_at "ovs"
  simp only [hy, ovS]
  walk_at "ovs"
  unfold TR at hq
  dsimp only at hq
  simp only [sLf_rt]
  obtain ⟨o, hl⟩ : ∃ o, st.rt y = o := ⟨_, rfl⟩
  rcases o with _ | l
  · rw [hl] at hq
    apply if_ndec <;> intro h1
    · exact absurd hl h1
    walk_at "ovs"
    rw [hl]
    exact leave_next (congrArg List.length hangS_lists) hq
  · rw [hl] at hq
    apply if_ndec <;> intro h1
    · walk_at "ovs"
      simp only [sPa_pa, sLf_pa]
      rw [hl]
      walk_at "ovs"
      exact leave_next (congrArg List.length hangS_lists) hq
    · rw [hl] at h1; cases h1
theorem fn_turn_right (wk : W.Ok) (D : Defd W "turn_right" 9) (H1 : Fn W 0 "hand_down" handDownS) (H2 : Fn W 0 "hang" hangF) (H3 : Fn W 0 "greatest_end" greS) : Fn W 1 "turn_right" turnRS :=
  Fn.mk D fun f hf => FnOK.of_body (ns := ["tree", "node"]) hf (fun _ _ _ _ _ => args2 fun _ _ => rfl) (by decide) (by decide) (by rintro xs st Q ⟨x, y, rfl, -⟩; rfl)
    (by rintro c st xs Q ok hc ⟨x, y, rfl, h1, h2, h3, hq⟩; exact turn_right_body wk ok hc H1 H2 H3 h1 h2 h3 hq) (by decide) rfl rfl rfl
end
end
-- == P1
section
set_option linter.unusedVariables false

structure D where
  i : Nat
  b : Int
  e : Int
  m : Int
  red : Bool
inductive T | nil | node (l : T) (d : D) (r : T)
inductive F | L (d : D) (r : T) | R (l : T) (d : D)
noncomputable abbrev C := List F
noncomputable abbrev Kt := Nat × Int × Int
noncomputable def D.key (d : D) : Kt := (d.i, d.b, d.e)
noncomputable def T.keys : T → List Kt
  | .nil => []
  | .node l d r => l.keys ++ d.key :: r.keys
noncomputable def T.ids (t : T) : List Nat := t.keys.map (·.1)
noncomputable def T.top : T → Option Nat
  | .nil => none
  | .node _ d _ => some d.i
noncomputable def F.i : F → Nat
  | .L d _ => d.i
  | .R _ d => d.i
noncomputable def ctop : C → Option Nat
  | [] => none
  | f :: _ => some f.i
noncomputable def lefts : C → List Kt
  | [] => []
  | .L d r :: c => lefts c
  | .R l d :: c => lefts c ++ (l.keys ++ [d.key])
noncomputable def rights : C → List Kt
  | [] => []
  | .L d r :: c => d.key :: r.keys ++ rights c
  | .R l d :: c => rights c
noncomputable def F.put : F → T → T
  | .L d r, t => .node t d r
  | .R l d, t => .node l d t
noncomputable def plug : C → T → T
  | [], t => t
  | f :: c, t => plug c (f.put t)
theorem plug_append (a b : C) (t : T) : plug (a ++ b) t = plug b (plug a t) := by
  induction a generalizing t with
  | nil => rfl
  | cons f a ih => exact ih _
noncomputable def keysAt (c : C) (t : T) : List Kt := lefts c ++ t.keys ++ rights c
theorem keysAt_L (d : D) (r : T) (c : C) (t : T) : keysAt (.L d r :: c) t = keysAt c (.node t d r) := by simp [keysAt, lefts, rights, T.keys]
theorem keysAt_R (d : D) (l : T) (c : C) (t : T) : keysAt (.R l d :: c) t = keysAt c (.node l d t) := by simp [keysAt, lefts, rights, T.keys]
theorem keysAt_put (f : F) (c : C) (t : T) : keysAt (f :: c) t = keysAt c (f.put t) := by cases f; exact keysAt_L ..; exact keysAt_R ..
theorem keysAt_plug (a : C) (c : C) (t : T) : keysAt (a ++ c) t = keysAt c (plug a t) := by
  induction a generalizing t with
  | nil => rfl
  | cons f a ih => exact (keysAt_put f (a ++ c) t).trans (ih _)
theorem keysAt_nil (t : T) : keysAt [] t = t.keys := by simp [keysAt, lefts, rights]

structure At (st : St) (d : D) (l r p : Option Nat) : Prop where
  bg : st.bg d.i = d.b
  en : st.en d.i = d.e
  lim : st.lim d.i = d.m
  red : st.red d.i = d.red
  lf : st.lf d.i = l
  rt : st.rt d.i = r
  pa : st.pa d.i = p
  num : st.num d.i = d.i
  nn : d.i < st.nn
structure Ag (st st' : St) (j : Nat) : Prop where
  bg : st'.bg j = st.bg j
  en : st'.en j = st.en j
  lim : st'.lim j = st.lim j
  red : st'.red j = st.red j
  lf : st'.lf j = st.lf j
  rt : st'.rt j = st.rt j
  pa : st'.pa j = st.pa j
  num : st'.num j = st.num j
theorem At.ag {st st' : St} {d : D} {l r p : Option Nat} (h : At st d l r p) (a : Ag st st' d.i) (n : st'.nn = st.nn) : At st' d l r p :=
  ⟨a.bg.trans h.bg, a.en.trans h.en, a.lim.trans h.lim, a.red.trans h.red, a.lf.trans h.lf, a.rt.trans h.rt, a.pa.trans h.pa, a.num.trans h.num, n ▸ h.nn⟩
theorem Ag.refl (st : St) (j : Nat) : Ag st st j := ⟨rfl, rfl, rfl, rfl, rfl, rfl, rfl, rfl⟩
theorem Ag.trans {a b c : St} {j : Nat} (h : Ag a b j) (g : Ag b c j) : Ag a c j :=
  ⟨g.bg.trans h.bg, g.en.trans h.en, g.lim.trans h.lim, g.red.trans h.red, g.lf.trans h.lf, g.rt.trans h.rt, g.pa.trans h.pa, g.num.trans h.num⟩

noncomputable def Rep (st : St) : Option Nat → T → Prop
  | _, .nil => True
  | p, .node l d r => At st d l.top r.top p ∧ Rep st (some d.i) l ∧ Rep st (some d.i) r
noncomputable def RepC (st : St) : C → Option Nat → Prop
  | [], q => st.root = q
  | .L d r :: c, q => At st d q r.top (ctop c) ∧ Rep st (some d.i) r ∧ RepC st c (some d.i)
  | .R l d :: c, q => At st d l.top q (ctop c) ∧ Rep st (some d.i) l ∧ RepC st c (some d.i)
noncomputable def cids (c : C) : List Nat := (lefts c ++ rights c).map (·.1)
structure Z (st : St) (c : C) (t : T) : Prop where
  rc : RepC st c t.top
  rt : Rep st (ctop c) t
  nd : ((keysAt c t).map (·.1)).Nodup

theorem mem_ids_node {l r : T} {d : D} {j : Nat} : j ∈ (T.node l d r).ids ↔ j ∈ l.ids ∨ j = d.i ∨ j ∈ r.ids := by simp [T.ids, T.keys, D.key]
theorem mem_cids_L {r : T} {d : D} {c : C} {j : Nat} : j ∈ cids (.L d r :: c) ↔ j = d.i ∨ j ∈ r.ids ∨ j ∈ cids c := by
  simp only [cids, lefts, rights, D.key, T.ids, List.map_append, List.mem_append, List.map_cons, List.mem_cons]; grind
theorem mem_cids_R {l : T} {d : D} {c : C} {j : Nat} : j ∈ cids (.R l d :: c) ↔ j = d.i ∨ j ∈ l.ids ∨ j ∈ cids c := by
  simp only [cids, lefts, rights, D.key, T.ids, List.map_append, List.mem_append, List.map_cons, List.mem_cons, List.map_nil, List.not_mem_nil]; grind
theorem top_mem {t : T} {j : Nat} (h : t.top = some j) : j ∈ t.ids := by
  cases t with
  | nil => cases h
  | node l d r => cases h; exact mem_ids_node.mpr (.inr (.inl rfl))
theorem ctop_mem {c : C} {j : Nat} (h : ctop c = some j) : j ∈ cids c := by
  rcases c with _ | ⟨_ | _, c⟩
  · cases h
  · cases h; exact mem_cids_L.mpr (.inl rfl)
  · cases h; exact mem_cids_R.mpr (.inl rfl)
theorem Rep.congr {st st' : St} (n : st'.nn = st.nn) : ∀ {t : T} {p : Option Nat}, (∀ j ∈ t.ids, Ag st st' j) → Rep st p t → Rep st' p t
  | .nil, _, _, _ => trivial
  | .node l d r, p, a, h => ⟨h.1.ag (a _ (mem_ids_node.mpr (.inr (.inl rfl)))) n, Rep.congr n (fun j hj => a _ (mem_ids_node.mpr (.inl hj))) h.2.1, Rep.congr n (fun j hj => a _ (mem_ids_node.mpr (.inr (.inr hj)))) h.2.2⟩
theorem RepC.congr {st st' : St} (n : st'.nn = st.nn) (r : st'.root = st.root) : ∀ {c : C} {q : Option Nat}, (∀ j ∈ cids c, Ag st st' j) → RepC st c q → RepC st' c q
  | [], _, _, h => r.trans h
  | .L d t :: c, q, a, h => ⟨h.1.ag (a _ (mem_cids_L.mpr (.inl rfl))) n, Rep.congr n (fun j hj => a _ (mem_cids_L.mpr (.inr (.inl hj)))) h.2.1, RepC.congr n r (fun j hj => a _ (mem_cids_L.mpr (.inr (.inr hj)))) h.2.2⟩
  | .R t d :: c, q, a, h => ⟨h.1.ag (a _ (mem_cids_R.mpr (.inl rfl))) n, Rep.congr n (fun j hj => a _ (mem_cids_R.mpr (.inr (.inl hj)))) h.2.1, RepC.congr n r (fun j hj => a _ (mem_cids_R.mpr (.inr (.inr hj)))) h.2.2⟩

structure Dj (c : C) (t : T) : Prop where
  hc : (cids c).Nodup
  ht : t.ids.Nodup
  d : ∀ j ∈ t.ids, j ∉ cids c
theorem dj_iff {c : C} {t : T} : ((keysAt c t).map (·.1)).Nodup ↔ Dj c t := by
  constructor
  · intro h
    refine ⟨?_, ?_, ?_⟩ <;> simp only [keysAt, cids, T.ids, List.map_append, List.nodup_append, List.mem_append] at * <;> grind
  · rintro ⟨a, b, c⟩
    simp only [keysAt, cids, T.ids, List.map_append, List.nodup_append, List.mem_append] at *; grind
theorem nd_node {l r : T} {d : D} (h : (T.node l d r).ids.Nodup) : l.ids.Nodup ∧ r.ids.Nodup ∧ d.i ∉ l.ids ∧ d.i ∉ r.ids ∧ ∀ j ∈ l.ids, j ∉ r.ids := by
  simp only [T.ids, T.keys, D.key, List.map_append, List.map_cons, List.nodup_append, List.nodup_cons, List.mem_cons] at *
  grind
theorem nd_L {c : C} {r : T} {d : D} (h : (cids (.L d r :: c)).Nodup) : r.ids.Nodup ∧ (cids c).Nodup ∧ d.i ∉ r.ids ∧ d.i ∉ cids c ∧ ∀ j ∈ r.ids, j ∉ cids c := by
  simp only [cids, lefts, rights, T.ids, D.key, List.map_append, List.map_cons, List.nodup_append, List.nodup_cons, List.mem_cons, List.mem_append] at *
  grind
theorem nd_R {c : C} {l : T} {d : D} (h : (cids (.R l d :: c)).Nodup) : l.ids.Nodup ∧ (cids c).Nodup ∧ d.i ∉ l.ids ∧ d.i ∉ cids c ∧ ∀ j ∈ l.ids, j ∉ cids c := by
  simp only [cids, lefts, rights, T.ids, D.key, List.map_append, List.map_cons, List.nodup_append, List.nodup_cons, List.mem_cons, List.mem_append, List.map_nil, List.not_mem_nil] at *
  grind

theorem Z.put_iff {st : St} {f : F} {c : C} {t : T} : Z st (f :: c) t ↔ Z st c (f.put t) := by
  constructor
  · intro h
    have nd := h.nd
    rw [keysAt_put] at nd
    cases f with
    | L d r => obtain ⟨⟨a, b, e⟩, g, -⟩ := h; exact ⟨e, ⟨a, g, b⟩, nd⟩
    | R d r => obtain ⟨⟨a, b, e⟩, g, -⟩ := h; exact ⟨e, ⟨a, b, g⟩, nd⟩
  · intro h
    have nd := h.nd
    rw [← keysAt_put] at nd
    cases f with
    | L d r => obtain ⟨e, ⟨a, g, b⟩, -⟩ := h; exact ⟨⟨a, b, e⟩, g, nd⟩
    | R d r => obtain ⟨e, ⟨a, b, g⟩, -⟩ := h; exact ⟨⟨a, b, e⟩, g, nd⟩
theorem Z.plug_iff {st : St} {a c : C} {t : T} : Z st (a ++ c) t ↔ Z st c (plug a t) := by
  induction a generalizing t with
  | nil => exact Iff.rfl
  | cons f a ih => exact (Z.put_iff (c := a ++ c)).trans ih
theorem Z.all_iff {st : St} {c : C} {t : T} : Z st c t ↔ Z st [] (plug c t) := by
  have := Z.plug_iff (st := st) (a := c) (c := []) (t := t)
  rwa [List.append_nil] at this

/-- a state that differs at no node of the tree -/
theorem Z.congr {st st' : St} {c : C} {t : T} (h : Z st c t) (n : st'.nn = st.nn) (r : st'.root = st.root) (a : ∀ j, j ∈ cids c ∨ j ∈ t.ids → Ag st st' j) : Z st' c t :=
  ⟨h.rc.congr n r fun j hj => a j (.inl hj), h.rt.congr n fun j hj => a j (.inr hj), h.nd⟩
/-- the node at the hole with other data -/
theorem Z.set {st st' : St} {c : C} {l r : T} {d d' : D} (h : Z st c (.node l d r)) (n : st'.nn = st.nn) (ro : st'.root = st.root) (a : ∀ j, j ≠ d.i → Ag st st' j) (k : d'.key = d.key)
    (g : At st' d' l.top r.top (ctop c)) : Z st' c (.node l d' r) := by
  have nd := h.nd
  have hi : d'.i = d.i := congrArg Prod.fst k
  have dj := dj_iff.mp nd
  obtain ⟨n1, n2, n3, n4, n5⟩ := nd_node dj.ht
  obtain ⟨h1, ⟨h2, h3, h4⟩, -⟩ := h
  refine ⟨?_, ⟨g, ?_, ?_⟩, ?_⟩
  · show RepC st' c (some d'.i)
    rw [hi]
    exact RepC.congr n ro (fun j hj => a j fun e => dj.d d.i (mem_ids_node.mpr (.inr (.inl rfl))) (e ▸ hj)) h1
  · rw [hi]; exact Rep.congr n (fun j hj => a j fun e => n3 (e ▸ hj)) h3
  · rw [hi]; exact Rep.congr n (fun j hj => a j fun e => n4 (e ▸ hj)) h4
  · simpa [keysAt, T.keys, k] using nd
theorem Z.sRed {st : St} {c : C} {l r : T} {d : D} (h : Z st c (.node l d r)) (x : Bool) : Z (st.sRed d.i x) c (.node l { d with red := x } r) := by
  refine h.set rfl rfl (fun j hj => ⟨rfl, rfl, rfl, ?_, rfl, rfl, rfl, rfl⟩) rfl ?_
  · exact if_neg hj
  · obtain ⟨-, ⟨g, -, -⟩, -⟩ := h
    exact ⟨g.bg, g.en, g.lim, if_pos rfl, g.lf, g.rt, g.pa, g.num, g.nn⟩
theorem Z.sLim {st : St} {c : C} {l r : T} {d : D} (h : Z st c (.node l d r)) (x : Int) : Z (st.sLim d.i x) c (.node l { d with m := x } r) := by
  refine h.set rfl rfl (fun j hj => ⟨rfl, rfl, ?_, rfl, rfl, rfl, rfl, rfl⟩) rfl ?_
  · exact if_neg hj
  · obtain ⟨-, ⟨g, -, -⟩, -⟩ := h
    exact ⟨g.bg, g.en, if_pos rfl, g.red, g.lf, g.rt, g.pa, g.num, g.nn⟩
theorem Z.at {st : St} {c : C} {l r : T} {d : D} (h : Z st c (.node l d r)) : At st d l.top r.top (ctop c) := h.rt.1

/-- what the tree's deeds leave alone -/
structure Kp (st st' : St) : Prop where
  off : st'.off = st.off
  nn : st'.nn = st.nn
  cnt : st'.cnt = st.cnt
  lists : st'.lists = st.lists
  places : st'.places = st.places
theorem Kp.refl (st : St) : Kp st st := ⟨rfl, rfl, rfl, rfl, rfl⟩
theorem Kp.trans {a b c : St} (h : Kp a b) (g : Kp b c) : Kp a c := ⟨g.off.trans h.off, g.nn.trans h.nn, g.cnt.trans h.cnt, g.lists.trans h.lists, g.places.trans h.places⟩

/-- the hole's pointer in the context -/
theorem hangA_RepC {st : St} {c : C} {n : Nat} {o : Option Nat} (h : RepC st c (some n)) (hd : (cids c).Nodup) (hn : n ∉ cids c) : RepC (hangA st (ctop c) n o) c o ∧ (∀ j, j ∉ cids c → Ag st (hangA st (ctop c) n o) j) ∧ Kp st (hangA st (ctop c) n o) := by
  rcases c with _ | ⟨⟨d, r⟩ | ⟨l, d⟩, c⟩
  · exact ⟨rfl, fun j _ => ⟨rfl, rfl, rfl, rfl, rfl, rfl, rfl, rfl⟩, ⟨rfl, rfl, rfl, rfl, rfl⟩⟩
  · obtain ⟨a, b, e⟩ := h
    obtain ⟨n1, n2, n3, n4, n5⟩ := nd_L hd
    have hs : hangA st (ctop (.L d r :: c)) n o = st.sLf d.i o := by
      show (if st.lf d.i = some n then _ else _) = _
      rw [if_pos a.lf]; rfl
    have ag : ∀ j, j ≠ d.i → Ag st (st.sLf d.i o) j := fun j hj => ⟨rfl, rfl, rfl, rfl, if_neg hj, rfl, rfl, rfl⟩
    rw [hs]
    refine ⟨⟨⟨a.bg, a.en, a.lim, a.red, if_pos rfl, a.rt, a.pa, a.num, a.nn⟩, ?_, ?_⟩, ?_, ⟨rfl, rfl, rfl, rfl, rfl⟩⟩
    · exact Rep.congr (st := st) (st' := st.sLf d.i o) rfl (fun j hj => ag j fun z => n3 (z ▸ hj)) b
    · exact RepC.congr (st := st) (st' := st.sLf d.i o) rfl rfl (fun j hj => ag j fun z => n4 (z ▸ hj)) e
    · exact fun j hj => ag j fun z => hj (z ▸ mem_cids_L.mpr (.inl rfl))
  · obtain ⟨a, b, e⟩ := h
    obtain ⟨n1, n2, n3, n4, n5⟩ := nd_R hd
    have hs : hangA st (ctop (.R l d :: c)) n o = st.sRt d.i o := by
      show (if st.lf d.i = some n then _ else _) = _
      rw [if_neg]
      · rfl
      rw [a.lf]
      exact fun z => hn (mem_cids_R.mpr (.inr (.inl (top_mem z))))
    have ag : ∀ j, j ≠ d.i → Ag st (st.sRt d.i o) j := fun j hj => ⟨rfl, rfl, rfl, rfl, rfl, if_neg hj, rfl, rfl⟩
    rw [hs]
    refine ⟨⟨⟨a.bg, a.en, a.lim, a.red, a.lf, if_pos rfl, a.pa, a.num, a.nn⟩, ?_, ?_⟩, ?_, ⟨rfl, rfl, rfl, rfl, rfl⟩⟩
    · exact Rep.congr (st := st) (st' := st.sRt d.i o) rfl (fun j hj => ag j fun z => n3 (z ▸ hj)) b
    · exact RepC.congr (st := st) (st' := st.sRt d.i o) rfl rfl (fun j hj => ag j fun z => n4 (z ▸ hj)) e
    · exact fun j hj => ag j fun z => hj (z ▸ mem_cids_R.mpr (.inl rfl))
/-- the top's parent -/
theorem hangB_Rep {st : St} {t : T} {p p' : Option Nat} (h : Rep st p t) (hd : t.ids.Nodup) : Rep (hangB st p' t.top) p' t ∧ (∀ j, j ∉ t.ids → Ag st (hangB st p' t.top) j) ∧ Kp st (hangB st p' t.top) ∧ (hangB st p' t.top).root = st.root := by
  cases t with
  | nil => exact ⟨trivial, fun j _ => Ag.refl st j, Kp.refl st, rfl⟩
  | node l d r =>
    obtain ⟨a, b, e⟩ := h
    obtain ⟨n1, n2, n3, n4, n5⟩ := nd_node hd
    have ag : ∀ j, j ≠ d.i → Ag st (st.sPa d.i p') j := fun j hj => ⟨rfl, rfl, rfl, rfl, rfl, rfl, if_neg hj, rfl⟩
    show (Rep (st.sPa d.i p') p' _ ∧ _ ∧ Kp st (st.sPa d.i p') ∧ _)
    refine ⟨⟨⟨a.bg, a.en, a.lim, a.red, a.lf, a.rt, if_pos rfl, a.num, a.nn⟩, ?_, ?_⟩, ?_, ⟨rfl, rfl, rfl, rfl, rfl⟩, rfl⟩
    · exact Rep.congr (st := st) (st' := st.sPa d.i p') rfl (fun j hj => ag j fun z => n3 (z ▸ hj)) b
    · exact Rep.congr (st := st) (st' := st.sPa d.i p') rfl (fun j hj => ag j fun z => n4 (z ▸ hj)) e
    · exact fun j hj => ag j fun z => hj (z ▸ mem_ids_node.mpr (.inr (.inl rfl)))
end
-- == P2
section
set_option linter.unusedVariables false

theorem ag_sRt {st : St} {i j : Nat} {v : Option Nat} (h : j ≠ i) : Ag st (st.sRt i v) j := ⟨rfl, rfl, rfl, rfl, rfl, if_neg h, rfl, rfl⟩
theorem ag_sLf {st : St} {i j : Nat} {v : Option Nat} (h : j ≠ i) : Ag st (st.sLf i v) j := ⟨rfl, rfl, rfl, rfl, if_neg h, rfl, rfl, rfl⟩
theorem ag_sPa {st : St} {i j : Nat} {v : Option Nat} (h : j ≠ i) : Ag st (st.sPa i v) j := ⟨rfl, rfl, rfl, rfl, rfl, rfl, if_neg h, rfl⟩
theorem ag_sLim {st : St} {i j : Nat} {v : Int} (h : j ≠ i) : Ag st (st.sLim i v) j := ⟨rfl, rfl, if_neg h, rfl, rfl, rfl, rfl, rfl⟩
theorem ag_sRed {st : St} {i j : Nat} {v : Bool} (h : j ≠ i) : Ag st (st.sRed i v) j := ⟨rfl, rfl, rfl, if_neg h, rfl, rfl, rfl, rfl⟩

noncomputable def T.mo : T → Option Int
  | .nil => none
  | .node _ d _ => some d.m
noncomputable def mm (m : Int) : Option Int → Int
  | none => m
  | some x => max m x
noncomputable def gr (e : Int) (a b : Option Int) : Int := mm (mm e a) b
theorem mxo_mo {st : St} {t : T} {p : Option Nat} {m : Int} (h : Rep st p t) (o : ∀ i, st.off i = 0) : mxo st m t.top = mm m t.mo := by
  cases t with
  | nil => rfl
  | node l d r =>
    show max m (st.lim d.i + st.off d.i) = max m d.m
    rw [h.1.lim, o]; simp
theorem gre_at {st : St} {d : D} {l r : T} {p : Option Nat} (h : Rep st p (.node l d r)) (o : ∀ i, st.off i = 0) : gre st d.i = gr d.e l.mo r.mo := by
  unfold gre gr
  rw [h.1.en, h.1.lf, h.1.rt, mxo_mo h.2.1 o, mxo_mo h.2.2 o]

/-- the pointers of a left turn -/
noncomputable def TLp (st : St) (x y : Nat) : St :=
  let s2 := st.sRt x (st.lf y)
  let s3 := hangB s2 (some x) (st.lf y)
  let s4 := hangS s3 (s3.pa x) x (some y)
  (s4.sLf y (some x)).sPa x (some y)
theorem TL_eq (st : St) (x y : Nat) : TL st x y = ((TLp st x y).sLim x (gre (TLp st x y) x)).sLim y (gre ((TLp st x y).sLim x (gre (TLp st x y) x)) y) := rfl
theorem TLp_Z {st : St} {c : C} {a b e : T} {x y : D} (h : Z st c (.node a x (.node b y e))) : Z (TLp st x.i y.i) c (.node (.node a x b) y e) ∧ Kp st (TLp st x.i y.i) := by
  have dj := dj_iff.mp h.nd
  obtain ⟨n1, n2, n3, n4, n5⟩ := nd_node dj.ht
  obtain ⟨m1, m2, m3, m4, m5⟩ := nd_node n2
  have nx : x.i ∉ cids c := dj.d _ (mem_ids_node.mpr (.inr (.inl rfl)))
  have ny : y.i ∉ cids c := dj.d _ (mem_ids_node.mpr (.inr (.inr (mem_ids_node.mpr (.inr (.inl rfl))))))
  have na : ∀ j ∈ a.ids, j ≠ x.i ∧ j ≠ y.i ∧ j ∉ b.ids ∧ j ∉ cids c := fun j hj => ⟨fun z => n3 (z ▸ hj), fun z => n5 j hj (mem_ids_node.mpr (.inr (.inl z))), fun z => n5 j hj (mem_ids_node.mpr (.inl z)), dj.d _ (mem_ids_node.mpr (.inl hj))⟩
  have nb : ∀ j ∈ b.ids, j ≠ x.i ∧ j ≠ y.i ∧ j ∉ cids c := fun j hj => ⟨fun z => n4 (z ▸ mem_ids_node.mpr (.inl hj)), fun z => m3 (z ▸ hj), dj.d _ (mem_ids_node.mpr (.inr (.inr (mem_ids_node.mpr (.inl hj)))))⟩
  have ne : ∀ j ∈ e.ids, j ≠ x.i ∧ j ≠ y.i ∧ j ∉ b.ids ∧ j ∉ cids c := fun j hj => ⟨fun z => n4 (z ▸ mem_ids_node.mpr (.inr (.inr hj))), fun z => m4 (z ▸ hj), fun z => m5 j z hj, dj.d _ (mem_ids_node.mpr (.inr (.inr (mem_ids_node.mpr (.inr (.inr hj))))))⟩
  have nxy : x.i ≠ y.i := fun z => n4 (mem_ids_node.mpr (.inr (.inl z)))
  have nxb : x.i ∉ b.ids := fun z => n4 (mem_ids_node.mpr (.inl z))
  obtain ⟨hc, ⟨ax, ra, ⟨ay, rb, re⟩⟩, -⟩ := id h
  have hc : RepC st c (some x.i) := hc
  have hly : st.lf y.i = b.top := ay.lf
  unfold TLp
  rw [hly]
  dsimp only
  generalize hs2 : st.sRt x.i b.top = s2
  have g2 : ∀ j, j ≠ x.i → Ag st s2 j := fun j hj => hs2 ▸ ag_sRt hj
  have k2 : Kp st s2 := hs2 ▸ ⟨rfl, rfl, rfl, rfl, rfl⟩
  have r2 : s2.root = st.root := hs2 ▸ rfl
  have ax2 : At s2 x a.top b.top (ctop c) := hs2 ▸ ⟨ax.bg, ax.en, ax.lim, ax.red, ax.lf, if_pos rfl, ax.pa, ax.num, ax.nn⟩
  obtain ⟨rb3, g3, k3, r3⟩ := hangB_Rep (st := s2) (p' := some x.i) (Rep.congr k2.nn (fun j hj => g2 j (nb j hj).1) rb) m1
  generalize hs3 : hangB s2 (some x.i) b.top = s3 at rb3 g3 k3 r3
  have ax3 := ax2.ag (g3 _ nxb) k3.nn
  rw [ax3.pa]
  unfold hangS
  have hc3 : RepC s3 c (some x.i) := hc.congr (k3.nn.trans k2.nn) (r3.trans r2) fun j hj => (g2 j (fun z => nx (z ▸ hj))).trans (g3 j (fun z => dj.d j (mem_ids_node.mpr (.inr (.inr (mem_ids_node.mpr (.inl z))))) hj))
  obtain ⟨hc4, g4, k4⟩ := hangA_RepC (o := some y.i) hc3 dj.hc nx
  generalize hs4 : hangA s3 (ctop c) x.i (some y.i) = s4 at hc4 g4 k4
  show Z (((s4.sPa y.i (ctop c)).sLf y.i (some x.i)).sPa x.i (some y.i)) _ _ ∧ _
  have kk : Kp st s4 := (k2.trans k3).trans k4
  have gg : ∀ j, j ≠ x.i → j ∉ b.ids → j ∉ cids c → Ag st s4 j := fun j h1 h2 h3 => ((g2 j h1).trans (g3 j h2)).trans (g4 j h3)
  have g5 : ∀ j, j ≠ x.i → j ≠ y.i → Ag s4 (((s4.sPa y.i (ctop c)).sLf y.i (some x.i)).sPa x.i (some y.i)) j := fun j h1 h2 => ((ag_sPa h2).trans (ag_sLf h2)).trans (ag_sPa h1)
  have ay4 : At s4 y b.top e.top (some x.i) := ay.ag (gg _ (Ne.symm nxy) m3 ny) kk.nn
  have ax4 : At s4 x a.top b.top (ctop c) := ax3.ag (g4 _ nx) k4.nn
  refine ⟨⟨?_, ⟨?_, ⟨?_, ?_, ?_⟩, ?_⟩, ?_⟩, ?_⟩
  · exact RepC.congr (st := s4) (by rfl) (by rfl) (fun j hj => g5 j (fun z => nx (z ▸ hj)) (fun z => ny (z ▸ hj))) hc4
  · exact ⟨ay4.bg, ay4.en, ay4.lim, ay4.red, if_pos rfl, ay4.rt, (if_neg (Ne.symm nxy)).trans (if_pos rfl), ay4.num, ay4.nn⟩
  · exact ⟨ax4.bg, ax4.en, ax4.lim, ax4.red, (if_neg nxy).trans ax4.lf, ax4.rt, if_pos rfl, ax4.num, ax4.nn⟩
  · exact Rep.congr (st := st) (by exact kk.nn) (fun j hj => (gg j (na j hj).1 (na j hj).2.2.1 (na j hj).2.2.2).trans (g5 j (na j hj).1 (na j hj).2.1)) ra
  · exact Rep.congr (st := s3) (by exact k4.nn) (fun j hj => (g4 j (nb j hj).2.2).trans (g5 j (nb j hj).1 (nb j hj).2.1)) rb3
  · exact Rep.congr (st := st) (by exact kk.nn) (fun j hj => (gg j (ne j hj).1 (ne j hj).2.2.1 (ne j hj).2.2.2).trans (g5 j (ne j hj).1 (ne j hj).2.1)) re
  · have := h.nd
    simpa [keysAt, T.keys] using this
  · exact kk.trans ⟨rfl, rfl, rfl, rfl, rfl⟩
noncomputable def TRp (st : St) (x y : Nat) : St :=
  let s2 := st.sLf x (st.rt y)
  let s3 := hangB s2 (some x) (st.rt y)
  let s4 := hangS s3 (s3.pa x) x (some y)
  (s4.sRt y (some x)).sPa x (some y)
theorem TR_eq (st : St) (x y : Nat) : TR st x y = ((TRp st x y).sLim x (gre (TRp st x y) x)).sLim y (gre ((TRp st x y).sLim x (gre (TRp st x y) x)) y) := rfl
theorem TRp_Z {st : St} {c : C} {a b e : T} {x y : D} (h : Z st c (.node (.node e y b) x a)) : Z (TRp st x.i y.i) c (.node e y (.node b x a)) ∧ Kp st (TRp st x.i y.i) := by
  have dj := dj_iff.mp h.nd
  obtain ⟨n2, n1, n4, n3, n5⟩ := nd_node dj.ht
  obtain ⟨m2, m1, m4, m3, m5⟩ := nd_node n2
  have nx : x.i ∉ cids c := dj.d _ (mem_ids_node.mpr (.inr (.inl rfl)))
  have ny : y.i ∉ cids c := dj.d _ (mem_ids_node.mpr (.inl (mem_ids_node.mpr (.inr (.inl rfl)))))
  have na : ∀ j ∈ a.ids, j ≠ x.i ∧ j ≠ y.i ∧ j ∉ b.ids ∧ j ∉ cids c := fun j hj => ⟨fun z => n3 (z ▸ hj), fun z => n5 j (mem_ids_node.mpr (.inr (.inl z))) hj, fun z => n5 j (mem_ids_node.mpr (.inr (.inr z))) hj, dj.d _ (mem_ids_node.mpr (.inr (.inr hj)))⟩
  have nb : ∀ j ∈ b.ids, j ≠ x.i ∧ j ≠ y.i ∧ j ∉ cids c := fun j hj => ⟨fun z => n4 (z ▸ mem_ids_node.mpr (.inr (.inr hj))), fun z => m3 (z ▸ hj), dj.d _ (mem_ids_node.mpr (.inl (mem_ids_node.mpr (.inr (.inr hj)))))⟩
  have ne : ∀ j ∈ e.ids, j ≠ x.i ∧ j ≠ y.i ∧ j ∉ b.ids ∧ j ∉ cids c := fun j hj => ⟨fun z => n4 (z ▸ mem_ids_node.mpr (.inl hj)), fun z => m4 (z ▸ hj), fun z => m5 j hj z, dj.d _ (mem_ids_node.mpr (.inl (mem_ids_node.mpr (.inl hj))))⟩
  have nxy : x.i ≠ y.i := fun z => n4 (mem_ids_node.mpr (.inr (.inl z)))
  have nxb : x.i ∉ b.ids := fun z => n4 (mem_ids_node.mpr (.inr (.inr z)))
  obtain ⟨hc, ⟨ax, ⟨ay, re, rb⟩, ra⟩, -⟩ := id h
  have hc : RepC st c (some x.i) := hc
  have hly : st.rt y.i = b.top := ay.rt
  unfold TRp
  rw [hly]
  dsimp only
  generalize hs2 : st.sLf x.i b.top = s2
  have g2 : ∀ j, j ≠ x.i → Ag st s2 j := fun j hj => hs2 ▸ ag_sLf hj
  have k2 : Kp st s2 := hs2 ▸ ⟨rfl, rfl, rfl, rfl, rfl⟩
  have r2 : s2.root = st.root := hs2 ▸ rfl
  have ax2 : At s2 x b.top a.top (ctop c) := hs2 ▸ ⟨ax.bg, ax.en, ax.lim, ax.red, if_pos rfl, ax.rt, ax.pa, ax.num, ax.nn⟩
  obtain ⟨rb3, g3, k3, r3⟩ := hangB_Rep (st := s2) (p' := some x.i) (Rep.congr k2.nn (fun j hj => g2 j (nb j hj).1) rb) m1
  generalize hs3 : hangB s2 (some x.i) b.top = s3 at rb3 g3 k3 r3
  have ax3 := ax2.ag (g3 _ nxb) k3.nn
  rw [ax3.pa]
  unfold hangS
  have hc3 : RepC s3 c (some x.i) := hc.congr (k3.nn.trans k2.nn) (r3.trans r2) fun j hj => (g2 j (fun z => nx (z ▸ hj))).trans (g3 j (fun z => dj.d j (mem_ids_node.mpr (.inl (mem_ids_node.mpr (.inr (.inr z))))) hj))
  obtain ⟨hc4, g4, k4⟩ := hangA_RepC (o := some y.i) hc3 dj.hc nx
  generalize hs4 : hangA s3 (ctop c) x.i (some y.i) = s4 at hc4 g4 k4
  show Z (((s4.sPa y.i (ctop c)).sRt y.i (some x.i)).sPa x.i (some y.i)) _ _ ∧ _
  have kk : Kp st s4 := (k2.trans k3).trans k4
  have gg : ∀ j, j ≠ x.i → j ∉ b.ids → j ∉ cids c → Ag st s4 j := fun j h1 h2 h3 => ((g2 j h1).trans (g3 j h2)).trans (g4 j h3)
  have g5 : ∀ j, j ≠ x.i → j ≠ y.i → Ag s4 (((s4.sPa y.i (ctop c)).sRt y.i (some x.i)).sPa x.i (some y.i)) j := fun j h1 h2 => ((ag_sPa h2).trans (ag_sRt h2)).trans (ag_sPa h1)
  have ay4 : At s4 y e.top b.top (some x.i) := ay.ag (gg _ (Ne.symm nxy) m3 ny) kk.nn
  have ax4 : At s4 x b.top a.top (ctop c) := ax3.ag (g4 _ nx) k4.nn
  refine ⟨⟨?_, ⟨?_, ?_, ⟨?_, ?_, ?_⟩⟩, ?_⟩, ?_⟩
  · exact RepC.congr (st := s4) (by rfl) (by rfl) (fun j hj => g5 j (fun z => nx (z ▸ hj)) (fun z => ny (z ▸ hj))) hc4
  · exact ⟨ay4.bg, ay4.en, ay4.lim, ay4.red, ay4.lf, if_pos rfl, (if_neg (Ne.symm nxy)).trans (if_pos rfl), ay4.num, ay4.nn⟩
  · exact Rep.congr (st := st) (by exact kk.nn) (fun j hj => (gg j (ne j hj).1 (ne j hj).2.2.1 (ne j hj).2.2.2).trans (g5 j (ne j hj).1 (ne j hj).2.1)) re
  · exact ⟨ax4.bg, ax4.en, ax4.lim, ax4.red, ax4.lf, (if_neg nxy).trans ax4.rt, if_pos rfl, ax4.num, ax4.nn⟩
  · exact Rep.congr (st := s3) (by exact k4.nn) (fun j hj => (g4 j (nb j hj).2.2).trans (g5 j (nb j hj).1 (nb j hj).2.1)) rb3
  · exact Rep.congr (st := st) (by exact kk.nn) (fun j hj => (gg j (na j hj).1 (na j hj).2.2.1 (na j hj).2.2.2).trans (g5 j (na j hj).1 (na j hj).2.1)) ra
  · have := h.nd
    simpa [keysAt, T.keys] using this
  · exact kk.trans ⟨rfl, rfl, rfl, rfl, rfl⟩

/-- a node seen from the side b: the near son first -/
noncomputable def bn : Bool → T → D → T → T
  | true, s, d, o => .node s d o
  | false, s, d, o => .node o d s
noncomputable def fr : Bool → D → T → F
  | true, d, o => .L d o
  | false, d, o => .R o d
theorem fr_put (b : Bool) (d : D) (s o : T) : (fr b d o).put s = bn b s d o := by cases b <;> rfl
theorem bn_not (b : Bool) (d : D) (s o : T) : bn (!b) s d o = bn b o d s := by cases b <;> rfl
theorem fr_i (b : Bool) (d : D) (o : T) : (fr b d o).i = d.i := by cases b <;> rfl
theorem bn_top (b : Bool) (d : D) (s o : T) : (bn b s d o).top = some d.i := by cases b <;> rfl
theorem bn_mo (b : Bool) (d : D) (s o : T) : (bn b s d o).mo = some d.m := by cases b <;> rfl
noncomputable def ole (a : Option Int) (z : Int) : Prop := ∀ x, a = some x → x ≤ z
theorem ole_none {z : Int} : ole none z ↔ True := ⟨fun _ => trivial, fun _ _ h => by cases h⟩
theorem ole_some {x z : Int} : ole (some x) z ↔ x ≤ z := ⟨fun h => h x rfl, fun h y e => by cases e; exact h⟩
theorem mm_le {m z : Int} {a : Option Int} : mm m a ≤ z ↔ m ≤ z ∧ ole a z := by
  cases a with
  | none => exact ⟨fun h => ⟨h, fun _ e => by cases e⟩, fun h => h.1⟩
  | some x => exact Int.max_le.trans (and_congr_right' ole_some.symm)
theorem le_ext {u v : Int} (h : ∀ z, u ≤ z ↔ v ≤ z) : u = v := Int.le_antisymm ((h v).mpr (Int.le_refl _)) ((h u).mp (Int.le_refl _))
theorem gr_le {e z : Int} {a b : Option Int} : gr e a b ≤ z ↔ (e ≤ z ∧ ole a z) ∧ ole b z := mm_le.trans (and_congr_left' mm_le)
theorem mm_mem (m : Int) (a : Option Int) : mm m a = m ∨ a = some (mm m a) := by
  cases a with
  | none => exact .inl rfl
  | some x => rcases Int.le_total m x with h | h
              · exact .inr (congrArg some (Int.max_eq_right h).symm)
              · exact .inl (Int.max_eq_left h)
theorem mm_mm (m : Int) (a b : Option Int) : mm (mm m a) b = mm (mm m b) a := le_ext fun z =>
  (gr_le (e := m) (a := a) (b := b)).trans (and_right_comm.trans (gr_le (e := m) (a := b) (b := a)).symm)
theorem gr_comm (e : Int) (a b : Option Int) : gr e a b = gr e b a := mm_mm ..
theorem Z.fr_iff {st : St} {b : Bool} {d : D} {o s : T} {c : C} : Z st (fr b d o :: c) s ↔ Z st c (bn b s d o) := by rw [Z.put_iff, fr_put]

noncomputable def near (st : St) (b : Bool) (i : Nat) : Option Nat := if b = true then st.lf i else st.rt i
noncomputable def far (st : St) (b : Bool) (i : Nat) : Option Nat := if b = true then st.rt i else st.lf i
structure AtB (st : St) (b : Bool) (d : D) (s o p : Option Nat) : Prop where
  bg : st.bg d.i = d.b
  en : st.en d.i = d.e
  lim : st.lim d.i = d.m
  red : st.red d.i = d.red
  nr : near st b d.i = s
  fr : far st b d.i = o
  pa : st.pa d.i = p
  num : st.num d.i = d.i
  nn : d.i < st.nn
theorem Z.bnAt {st : St} {b : Bool} {d : D} {o s : T} {c : C} (h : Z st c (bn b s d o)) : AtB st b d s.top o.top (ctop c) := by
  cases b
  · have := h.at; exact ⟨this.bg, this.en, this.lim, this.red, this.rt, this.lf, this.pa, this.num, this.nn⟩
  · have := h.at; exact ⟨this.bg, this.en, this.lim, this.red, this.lf, this.rt, this.pa, this.num, this.nn⟩
theorem Z.bnRed {st : St} {b : Bool} {d : D} {o s : T} {c : C} (h : Z st c (bn b s d o)) (x : Bool) : Z (st.sRed d.i x) c (bn b s { d with red := x } o) := by
  cases b <;> exact Z.sRed h x
theorem Z.bnLim {st : St} {b : Bool} {d : D} {o s : T} {c : C} (h : Z st c (bn b s d o)) (x : Int) : Z (st.sLim d.i x) c (bn b s { d with m := x } o) := by
  cases b <;> exact Z.sLim h x
theorem Z.gre {st : St} {b : Bool} {d : D} {o s : T} {c : C} (h : Z st c (bn b s d o)) (z : ∀ i, st.off i = 0) : gre st d.i = gr d.e s.mo o.mo := by
  cases b
  · exact (gre_at h.rt z).trans (gr_comm ..)
  · exact gre_at h.rt z

/-- the turned tree: x sinks to the side b -/
noncomputable def rotX (x : D) (a b : T) : D := { x with m := gr x.e a.mo b.mo }
noncomputable def rotY (x y : D) (a b e : T) : D := { y with m := gr y.e (some (gr x.e a.mo b.mo)) e.mo }
noncomputable def rot (s : Bool) (x y : D) (a b e : T) : T := bn s (bn s a (rotX x a b) b) (rotY x y a b e) e
noncomputable def TB (s : Bool) (st : St) (x y : Nat) : St := if s = true then TL st x y else TR st x y
theorem TB_Z {s : Bool} {st : St} {c : C} {a b e : T} {x y : D} (h : Z st c (bn s a x (bn s b y e))) (z : ∀ i, st.off i = 0) : Z (TB s st x.i y.i) c (rot s x y a b e) ∧ Kp st (TB s st x.i y.i) := by
  have main : ∀ s1 : St, Z s1 c (bn s (bn s a x b) y e) → Kp st s1 → Z ((s1.sLim x.i (gre s1 x.i)).sLim y.i (gre (s1.sLim x.i (gre s1 x.i)) y.i)) c (rot s x y a b e) ∧ Kp st ((s1.sLim x.i (gre s1 x.i)).sLim y.i (gre (s1.sLim x.i (gre s1 x.i)) y.i)) := by
    intro s1 h1 k1
    have z1 : ∀ i, s1.off i = 0 := fun i => by rw [k1.off]; exact z i
    have h2 := Z.fr_iff.mpr h1
    have e2 := h2.gre z1
    have h3 := Z.fr_iff.mp (h2.bnLim (Ov.gre s1 x.i))
    have e3 := h3.gre (st := s1.sLim x.i (Ov.gre s1 x.i)) z1
    have h4 := h3.bnLim (Ov.gre (s1.sLim x.i (Ov.gre s1 x.i)) y.i)
    refine ⟨?_, k1.trans ⟨rfl, rfl, rfl, rfl, rfl⟩⟩
    rw [bn_mo] at e3
    have : rot s x y a b e = bn s (bn s a { x with m := Ov.gre s1 x.i } b) { y with m := Ov.gre (s1.sLim x.i (Ov.gre s1 x.i)) y.i } e := by
      rw [e3, e2]; rfl
    rw [this]; exact h4
  cases s
  · obtain ⟨h1, k1⟩ := TRp_Z h
    exact main _ h1 k1
  · obtain ⟨h1, k1⟩ := TLp_Z h
    exact main _ h1 k1
theorem rot_keys (s : Bool) (x y : D) (a b e : T) (c : C) : keysAt c (rot s x y a b e) = keysAt c (bn s a x (bn s b y e)) := by
  cases s <;> simp [keysAt, rot, bn, T.keys, rotX, rotY, D.key]
end
-- == M20
section
open PySem PySem.W PySem.Calls PyProof.Rows
set_option linter.unusedVariables false
set_option maxRecDepth 100000
set_option maxHeartbeats 4000000
section
variable {W : Wc} {c : Fc} {ρ : Env0} {st : St}

theorem turnL_Z {v : V} {x y : D} {k : C} {a b e : T} {Q : V → St → Prop} (ha : ptr v = some (some x.i)) (h : Z st k (bn true a x (bn true b y e))) (z : ∀ i, st.off i = 0)
    (q : ∀ st', Z st' k (rot true x y a b e) → Kp st st' → Q .none st') : turnLS [.tree, v] st Q := by
  obtain ⟨h1, h2⟩ := TB_Z h z
  exact ⟨x.i, y.i, by rw [ov_ptr ha]; rfl, h.at.rt, z _, z _, q _ h1 h2⟩
theorem turnR_Z {v : V} {x y : D} {k : C} {a b e : T} {Q : V → St → Prop} (ha : ptr v = some (some x.i)) (h : Z st k (bn false a x (bn false b y e))) (z : ∀ i, st.off i = 0)
    (q : ∀ st', Z st' k (rot false x y a b e) → Kp st st' → Q .none st') : turnRS [.tree, v] st Q := by
  obtain ⟨h1, h2⟩ := TB_Z h z
  exact ⟨x.i, y.i, by rw [ov_ptr ha]; rfl, h.at.lf, z _, z _, q _ h1 h2⟩

inductive turnTS (xs : List V) (st : St) (Q : V → St → Prop) : Prop
  | mk : ∀ s x y k a b e, (xs = [.tree, .node x.i, .bool s]) → (Z st k (bn s a x (bn s b y e))) → ((∀ i, st.off i = 0)) → (∀ st', Z st' k (rot s x y a b e) → Kp st st' → Q .none st') → turnTS xs st Q
theorem turnT_i {v : V} {s : Bool} {x y : D} {k : C} {a b e : T} {Q : V → St → Prop} (ha : ptr v = some (some x.i)) (h : Z st k (bn s a x (bn s b y e))) (z : ∀ i, st.off i = 0)
    (q : ∀ st', Z st' k (rot s x y a b e) → Kp st st' → Q .none st') : turnTS [.tree, v, .bool s] st Q := ⟨s, x, y, k, a, b, e, by rw [ov_ptr ha]; rfl, h, z, q⟩
theorem turnT_body {s : Bool} {x y : D} {k : C} {a b e : T} {Q : V → St → Prop} (wk : W.Ok) (ok : c.Ok W 2) (hc : c.cs = scopeOf (stmtAt 19)) (H1 : Fn W 1 "turn_left" turnLS) (H2 : Fn W 1 "turn_right" turnRS)
  (h : Z st k (bn s a x (bn s b y e))) (z : ∀ i, st.off i = 0) (q : ∀ st', Z st' k (rot s x y a b e) → Kp st st' → Q .none st') :
  TriS W c (bodyOf (stmtAt 19)) [("tree", .tree), ("node", .node x.i), ("is_left", .bool s)] st (LeaveQ st.lists.length Q) := by
  refine TriS_cons ?_
  walk_at "ovs"
  apply if_b <;> intro hs <;> subst hs
  · walk_at "ovs"
    refine turnL_Z (by walk_at "ov ptr") h z fun st' h' k' => ?_
    walk_at "ovs"
    exact leave_next (congrArg List.length k'.lists) (q _ h' k')
  · walk_at "ovs"
    refine turnR_Z (by walk_at "ov ptr") h z fun st' h' k' => ?_
    walk_at "ovs"
    exact leave_next (congrArg List.length k'.lists) (q _ h' k')
theorem fn_turn_towards (wk : W.Ok) (D : Defd W "turn_towards" 19) (H1 : Fn W 1 "turn_left" turnLS) (H2 : Fn W 1 "turn_right" turnRS) : Fn W 2 "turn_towards" turnTS :=
  Fn.mk D fun f hf => FnOK.of_body (ns := ["tree", "node", "is_left"]) hf (fun _ _ _ _ _ => args3 fun _ _ _ => rfl) (by decide) (by decide) (by rintro xs st Q ⟨s, x, y, k, a, b, e, rfl, -⟩; rfl)
    (by rintro c st xs Q ok hc ⟨s, x, y, k, a, b, e, rfl, h1, h2, h3⟩; exact turnT_body wk ok hc H1 H2 h1 h2 h3) (by decide) rfl rfl rfl

/-- node at the side s of its parent -/
inductive turnedS (xs : List V) (st : St) (Q : V → St → Prop) : Prop
  | mk : ∀ il s d p k l r o, (xs = [.tree, .node d.i, .bool il]) → (Z st k (bn s (.node l d r) p o)) → ((∀ i, st.off i = 0)) → ((s = il → Q (.node d.i) st)) → ((s = !il → ∀ a b, bn il a d b = .node l d r → ∀ st', Z st' k (rot il p d o a b) → Kp st st' → Q (.node p.i) st')) → turnedS xs st Q
theorem turned_i {v : V} {il s : Bool} {d p : D} {k : C} {l r o : T} {Q : V → St → Prop} (ha : ptr v = some (some d.i)) (h : Z st k (bn s (.node l d r) p o)) (z : ∀ i, st.off i = 0)
    (q1 : s = il → Q (.node d.i) st) (q2 : s = !il → ∀ a b, bn il a d b = .node l d r → ∀ st', Z st' k (rot il p d o a b) → Kp st st' → Q (.node p.i) st') : turnedS [.tree, v, .bool il] st Q :=
  ⟨il, s, d, p, k, l, r, o, by rw [ov_ptr ha]; rfl, h, z, q1, q2⟩
theorem turned_body {il s : Bool} {d p : D} {k : C} {l r o : T} {Q : V → St → Prop} (wk : W.Ok) (ok : c.Ok W 2) (hc : c.cs = scopeOf (stmtAt 12)) (H1 : Fn W 1 "turn_left" turnLS) (H2 : Fn W 1 "turn_right" turnRS)
  (h : Z st k (bn s (.node l d r) p o)) (z : ∀ i, st.off i = 0) (q1 : s = il → Q (.node d.i) st) (q2 : s = !il → ∀ a b, bn il a d b = .node l d r → ∀ st', Z st' k (rot il p d o a b) → Kp st st' → Q (.node p.i) st') :
  TriS W c (bodyOf (stmtAt 12)) [("tree", .tree), ("node", .node d.i), ("is_left", .bool il)] st (LeaveQ st.lists.length Q) := by
  have hp : st.pa d.i = some p.i := by
    have := (Z.fr_iff.mpr h).at.pa
    rw [this]; show some (fr s p o).i = _; rw [fr_i]
  have hne : o.top ≠ some d.i := fun e => by
    have dj := (dj_iff.mp h.nd).ht
    have hm := top_mem e
    cases s
    · exact (nd_node dj).2.2.2.2 _ hm (mem_ids_node.mpr (.inr (.inl rfl)))
    · exact (nd_node dj).2.2.2.2 _ (mem_ids_node.mpr (.inr (.inl rfl))) hm
  refine TriS_cons ?_
  walk_at "ovs"
  simp only [hp, ovS]
  walk_at "ovs"
  cases il
  · walk_at "ovs"
    · apply if_dec <;> intro h1
      · walk_at "ovs"
        cases s
        · exact absurd (h.at.lf.symm.trans h1) hne
        · refine turnR_Z (x := p) (y := d) (k := k) (a := o) (b := r) (e := l) (by walk_at "ov ptr") h z fun st' h' k' => ?_
          walk_at "ovs"
          exact leave_ret rfl (congrArg List.length k'.lists) (q2 rfl _ _ rfl st' h' k')
      · walk_at "ovs"
        cases s
        · exact leave_ret rfl rfl (q1 rfl)
        · exact absurd h.at.lf h1
  · walk_at "ovs"
    · apply if_dec <;> intro h1
      · walk_at "ovs"
        cases s
        · refine turnL_Z (x := p) (y := d) (k := k) (a := o) (b := l) (e := r) (by walk_at "ov ptr") h z fun st' h' k' => ?_
          walk_at "ovs"
          exact leave_ret rfl (congrArg List.length k'.lists) (q2 rfl _ _ rfl st' h' k')
        · exact absurd (h.at.rt.symm.trans h1) hne
      · walk_at "ovs"
        cases s
        · exact absurd h.at.rt h1
        · exact leave_ret rfl rfl (q1 rfl)
theorem fn_turned (wk : W.Ok) (D : Defd W "turned_inward" 12) (H1 : Fn W 1 "turn_left" turnLS) (H2 : Fn W 1 "turn_right" turnRS) : Fn W 2 "turned_inward" turnedS :=
  Fn.mk D fun f hf => FnOK.of_body (ns := ["tree", "node", "is_left"]) hf (fun _ _ _ _ _ => args3 fun _ _ _ => rfl) (by decide) (by decide) (by rintro xs st Q ⟨il, s, d, p, k, l, r, o, rfl, -⟩; rfl)
    (by rintro c st xs Q ok hc ⟨il, s, d, p, k, l, r, o, rfl, h1, h2, h3, h4⟩; exact turned_body wk ok hc H1 H2 h1 h2 h3 h4) (by decide) rfl rfl rfl
end
end
-- == P3
section
set_option linter.unusedVariables false

noncomputable def T.red : T → Bool
  | .nil => false
  | .node _ d _ => d.red
noncomputable def Lm : T → Prop
  | .nil => True
  | .node l d r => d.m = gr d.e l.mo r.mo ∧ Lm l ∧ Lm r
noncomputable def LmC : C → Option Int → Prop
  | [], _ => True
  | .L d r :: c, q => d.m = gr d.e q r.mo ∧ Lm r ∧ LmC c (some d.m)
  | .R l d :: c, q => d.m = gr d.e l.mo q ∧ Lm l ∧ LmC c (some d.m)
noncomputable def BH : T → Nat → Prop
  | .nil, n => n = 0
  | .node l d r, n => (d.red = true ∧ l.red = false ∧ r.red = false ∧ BH l n ∧ BH r n) ∨ (d.red = false ∧ ∃ k, n = k + 1 ∧ BH l k ∧ BH r k)
noncomputable def BC : C → Bool → Nat → Prop
  | [], q, _ => q = false
  | .L d r :: c, q, n => BH r n ∧ ((d.red = true ∧ q = false ∧ r.red = false ∧ BC c true n) ∨ (d.red = false ∧ BC c false (n + 1)))
  | .R l d :: c, q, n => BH l n ∧ ((d.red = true ∧ q = false ∧ l.red = false ∧ BC c true n) ∨ (d.red = false ∧ BC c false (n + 1)))
theorem exists_fr (f : F) : ∃ s d o, f = fr s d o := by cases f with | L d r => exact ⟨true, d, r, rfl⟩ | R l d => exact ⟨false, d, l, rfl⟩
theorem exists_bn {t : T} {i : Nat} (s : Bool) (h : t.top = some i) : ∃ a d b, t = bn s a d b ∧ d.i = i := by
  cases t with
  | nil => cases h
  | node l d r => cases h; cases s; exact ⟨r, d, l, rfl, rfl⟩; exact ⟨l, d, r, rfl, rfl⟩
@[simp] theorem bn_red (s : Bool) (d : D) (a b : T) : (bn s a d b).red = d.red := by cases s <;> rfl
theorem Lm_bn {s : Bool} {d : D} {a b : T} : Lm (bn s a d b) ↔ d.m = gr d.e a.mo b.mo ∧ Lm a ∧ Lm b := by
  cases s
  · simp only [bn, Lm]; rw [gr_comm]; exact ⟨fun ⟨a, b, c⟩ => ⟨a, c, b⟩, fun ⟨a, b, c⟩ => ⟨a, c, b⟩⟩
  · exact Iff.rfl
theorem LmC_fr {s : Bool} {d : D} {o : T} {c : C} {q : Option Int} : LmC (fr s d o :: c) q ↔ d.m = gr d.e q o.mo ∧ Lm o ∧ LmC c (some d.m) := by
  cases s
  · simp only [fr, LmC]; rw [gr_comm]
  · exact Iff.rfl
theorem BH_bn {s : Bool} {d : D} {a b : T} {n : Nat} : BH (bn s a d b) n ↔ (d.red = true ∧ a.red = false ∧ b.red = false ∧ BH a n ∧ BH b n) ∨ (d.red = false ∧ ∃ k, n = k + 1 ∧ BH a k ∧ BH b k) := by
  cases s
  · simp only [bn, BH]; grind
  · exact Iff.rfl
theorem BC_fr {s : Bool} {d : D} {o : T} {c : C} {q : Bool} {n : Nat} : BC (fr s d o :: c) q n ↔ BH o n ∧ ((d.red = true ∧ q = false ∧ o.red = false ∧ BC c true n) ∨ (d.red = false ∧ BC c false (n + 1))) := by
  cases s <;> exact Iff.rfl
theorem Lm_plug {c : C} : ∀ {t : T}, Lm t → LmC c t.mo → Lm (plug c t) := by
  induction c with
  | nil => exact fun h _ => h
  | cons f c ih =>
    intro t h g
    obtain ⟨s, d, o, rfl⟩ := exists_fr f
    obtain ⟨h1, h2, h3⟩ := LmC_fr.mp g
    refine ih (t := (fr s d o).put t) ?_ ?_
    · rw [fr_put]; exact Lm_bn.mpr ⟨h1, h, h2⟩
    · rw [fr_put, bn_mo]; exact h3
theorem BH_plug {c : C} : ∀ {t : T} {n : Nat}, BH t n → BC c t.red n → (∃ k, BH (plug c t) k) ∧ (plug c t).red = false := by
  induction c with
  | nil => exact fun h g => ⟨⟨_, h⟩, g⟩
  | cons f c ih =>
    intro t n h g
    obtain ⟨s, d, o, rfl⟩ := exists_fr f
    obtain ⟨h1, h2⟩ := BC_fr.mp g
    rcases h2 with ⟨r, q, w, h3⟩ | ⟨r, h3⟩
    · refine ih (t := (fr s d o).put t) (n := n) ?_ ?_
      · rw [fr_put]; exact BH_bn.mpr (.inl ⟨r, q, w, h, h1⟩)
      · rw [fr_put, bn_red, r]; exact h3
    · refine ih (t := (fr s d o).put t) (n := n + 1) ?_ ?_
      · rw [fr_put]; exact BH_bn.mpr (.inr ⟨r, n, rfl, h, h1⟩)
      · rw [fr_put, bn_red, r]; exact h3

noncomputable def blk : T → T
  | .nil => .nil
  | .node l d r => .node l { d with red := false } r
theorem blk_of {t : T} (h : t.red = false) : blk t = t := by
  rcases t with _ | ⟨l, ⟨i, b, e, m, r⟩, q⟩
  · rfl
  · cases h; rfl
theorem blk_keys {t : T} : (blk t).keys = t.keys := by cases t <;> rfl
theorem blk_mo {t : T} : (blk t).mo = t.mo := by cases t <;> rfl
theorem blk_top {t : T} : (blk t).top = t.top := by cases t <;> rfl
theorem blk_red {t : T} : (blk t).red = false := by cases t <;> rfl
theorem blk_Lm {t : T} : Lm (blk t) ↔ Lm t := by cases t <;> exact Iff.rfl
theorem blk_BH {t : T} {n : Nat} (h : t.red = true) (g : BH t n) : BH (blk t) (n + 1) := by
  cases t with
  | nil => cases h
  | node l d r =>
    rcases g with ⟨_, _, _, a, b⟩ | ⟨e, _⟩
    · exact .inr ⟨rfl, n, rfl, a, b⟩
    · cases h.symm.trans e

/-- a whole tree in order -/
structure Good (t : T) : Prop where
  lm : Lm t
  bh : ∃ k, BH t k
  red : t.red = false

structure InsA (c : C) (t : T) (n : Nat) : Prop where
  bh : BH t n
  red : t.red = true
  bc : BC c false n
  lm : Lm t
  lc : LmC c t.mo
theorem InsA.black {f : F} {c : C} {t : T} {n : Nat} (h : InsA (f :: c) t n) {s : Bool} {p : D} {o : T} (e : f = fr s p o) (hp : p.red = false) : Good (plug (f :: c) t) := by
  subst e
  obtain ⟨h1, h2⟩ := BC_fr.mp h.bc
  have hb : BC (fr s p o :: c) t.red n := BC_fr.mpr ⟨h1, .inr ⟨hp, (by
    rcases h2 with ⟨r, -⟩ | ⟨-, r⟩
    · cases hp.symm.trans r
    · exact r)⟩⟩
  obtain ⟨g1, g2⟩ := BH_plug h.bh hb
  exact ⟨Lm_plug h.lm h.lc, g1, g2⟩
theorem InsA.up {s : Bool} {p : D} {o : T} {c : C} {t : T} {n : Nat} (h : InsA (fr s p o :: c) t n) (hp : p.red = true) :
    ∃ s2 g u c2, c = fr s2 g u :: c2 ∧ g.red = false ∧ BH o n ∧ o.red = false ∧ BH u n ∧ BC c2 false (n + 1) ∧ Lm o ∧ Lm u ∧ p.m = gr p.e t.mo o.mo ∧ g.m = gr g.e (some p.m) u.mo ∧ LmC c2 (some g.m) := by
  obtain ⟨h1, h2⟩ := BC_fr.mp h.bc
  obtain ⟨l1, l2, l3⟩ := LmC_fr.mp h.lc
  rcases h2 with ⟨-, -, ho, h3⟩ | ⟨r, -⟩
  · rcases c with _ | ⟨f, c2⟩
    · cases h3
    · obtain ⟨s2, g, u, rfl⟩ := exists_fr f
      obtain ⟨h4, h5⟩ := BC_fr.mp h3
      obtain ⟨l4, l5, l6⟩ := LmC_fr.mp l3
      rcases h5 with ⟨-, z, -⟩ | ⟨hg, h5⟩
      · cases z
      · exact ⟨s2, g, u, c2, rfl, hg, h1, ho, h4, h5, l2, l5, l1, l4, l6⟩
  · cases hp.symm.trans r
/-- the uncle is red -/
theorem InsA.recolour {s s2 : Bool} {p g : D} {o u : T} {c2 : C} {t : T} {n : Nat} (h : InsA (fr s p o :: fr s2 g u :: c2) t n) (hp : p.red = true) (hu : u.red = true) :
    InsA c2 (bn s2 (bn s t { p with red := false } o) { g with red := true } (blk u)) (n + 1) := by
  obtain ⟨s2', g', u', c2', e, hg, bo, ro, bu, bc, lo, lu, e1, e2, lc⟩ := h.up hp
  have e0 : g = g' ∧ u = u' ∧ c2 = c2' ∧ s2 = s2' := by
    cases s2 <;> cases s2' <;> simp [fr] at e <;> simp [e]
  obtain ⟨rfl, rfl, rfl, rfl⟩ := e0
  refine ⟨BH_bn.mpr (.inl ⟨rfl, ?_, blk_red, BH_bn.mpr (.inr ⟨rfl, n, rfl, h.bh, bo⟩), blk_BH hu bu⟩), bn_red .., bc, Lm_bn.mpr ⟨?_, Lm_bn.mpr ⟨e1, h.lm, lo⟩, blk_Lm.mpr lu⟩, ?_⟩
  · rw [bn_red]
  · rw [bn_mo, blk_mo]; exact e2
  · rw [bn_mo]; exact lc
theorem gr_rot {a b e : Option Int} {x y : Int} : gr y (some (gr x a b)) e = gr x a (some (gr y b e)) := by
  refine le_ext fun z => ?_
  rw [gr_le, gr_le, ole_some, ole_some, gr_le, gr_le]
  exact ⟨fun ⟨⟨h1, ⟨h2, h3⟩, h4⟩, h5⟩ => ⟨⟨h2, h3⟩, ⟨h1, h4⟩, h5⟩, fun ⟨⟨h2, h3⟩, ⟨h1, h4⟩, h5⟩ => ⟨⟨h1, ⟨h2, h3⟩, h4⟩, h5⟩⟩
/-- the last turn of an insertion -/
theorem ins_final {s2 : Bool} {g x : D} {u q y : T} {c2 : C} {n : Nat} (bq : BH q n) (rq : q.red = true) (by_ : BH y n) (ry : y.red = false) (bu : BH u n) (ru : u.red = false) (bc : BC c2 false (n + 1)) (lq : Lm q) (ly : Lm y) (lu : Lm u)
    (lc : LmC c2 (some (gr g.e (some (gr x.e q.mo y.mo)) u.mo))) : Good (plug c2 (rot (!s2) { g with red := true } { x with red := false } u y q)) := by
  have hb : BH (rot (!s2) { g with red := true } { x with red := false } u y q) (n + 1) := BH_bn.mpr (.inr ⟨rfl, n, rfl, BH_bn.mpr (.inl ⟨rfl, ru, ry, bu, by_⟩), bq⟩)
  have hr : (rot (!s2) { g with red := true } { x with red := false } u y q).red = false := bn_red ..
  obtain ⟨g1, g2⟩ := BH_plug (c := c2) hb (by rw [hr]; exact bc)
  refine ⟨Lm_plug (Lm_bn.mpr ⟨?_, Lm_bn.mpr ⟨rfl, lu, ly⟩, lq⟩) ?_, g1, g2⟩
  · rw [bn_mo]; rfl
  · unfold rot
    rw [bn_mo]
    show LmC c2 (some (gr x.e (some (gr g.e u.mo y.mo)) q.mo))
    rw [gr_rot, gr_comm g.e, gr_comm x.e]
    exact lc
end
-- == M21
section
open PySem PySem.W PySem.Calls PyProof.Rows
set_option linter.unusedVariables false
set_option linter.unusedSimpArgs false
set_option maxRecDepth 100000
set_option maxHeartbeats 4000000
section
variable {W : Wc} {c : Fc} {ρ : Env0} {st : St}

theorem keysAt_fr {s : Bool} {d : D} {o t : T} {k : C} : keysAt (fr s d o :: k) t = keysAt k (bn s t d o) := by rw [keysAt_put, fr_put]
theorem turned_I {v : V} {s s2 : Bool} {p g : D} {o u t : T} {c2 : C} {n i : Nat} {Q : V → St → Prop} (ha : ptr v = some (some i)) (hZ : Z st (fr s p o :: fr s2 g u :: c2) t) (z : ∀ i, st.off i = 0) (ht : t.top = some i)
    (bt : BH t n) (rt : t.red = true) (lt : Lm t) (bo : BH o n) (ro : o.red = false) (lo : Lm o) (e1 : p.m = gr p.e t.mo o.mo) (hp : p.red = true)
    (k : ∀ st' j q x y, Z st' (fr s2 g u :: c2) (bn s2 q x y) → Kp st st' → q.top = some j → q.red = true → BH q n → BH y n → y.red = false → Lm q → Lm y → gr x.e q.mo y.mo = p.m →
      keysAt (fr s2 g u :: c2) (bn s2 q x y) = keysAt (fr s p o :: fr s2 g u :: c2) t → Q (.node j) st') : turnedS [.tree, v, .bool s2] st Q := by
  cases t with
  | nil => cases ht
  | node l d r =>
    cases ht
    have hb := Z.fr_iff.mp hZ
    refine turned_i ha hb z (fun e => ?_) (fun e a b e2 st' h' k' => ?_)
    · subst e
      refine k st d.i (.node l d r) p o hb (Kp.refl st) rfl rt bt bo ro lt lo e1.symm ?_
      exact (keysAt_fr ..).symm
    · subst e
      rw [← e2] at bt rt lt e1
      rw [bn_red] at rt
      rcases BH_bn.mp bt with ⟨-, ra, rb, ba, bb⟩ | ⟨e, -⟩
      · obtain ⟨l1, l2, l3⟩ := Lm_bn.mp lt
        rw [bn_mo] at e1
        have lp : Lm (bn s2 o (rotX p o a) a) := Lm_bn.mpr ⟨rfl, lo, l2⟩
        refine k st' p.i (bn s2 o (rotX p o a) a) (rotY p d o a b) b h' k' (by rw [bn_top]; rfl) (by rw [bn_red]; exact hp) (BH_bn.mpr (.inl ⟨hp, ro, ra, bo, ba⟩)) bb rb lp l3 ?_ ?_
        · rw [bn_mo]
          show gr d.e (some (gr p.e o.mo a.mo)) b.mo = _
          rw [gr_rot, e1, l1, gr_comm]
        · have := rot_keys s2 p d o a b (fr s2 g u :: c2)
          unfold rot at this
          rw [this, e2, keysAt_fr (s := !s2), bn_not]
      · cases rt.symm.trans e

theorem redO_rep {t : T} {p : Option Nat} (h : Rep st p t) : redO st t.top = t.red := by
  cases t with
  | nil => rfl
  | node l d r => exact h.1.red
theorem Z.far {s : Bool} {d : D} {a o : T} {k : C} (h : Z st k (bn s a d o)) : far st s d.i = o.top := h.bnAt.fr
theorem Z.side {s : Bool} {d : D} {i : Nat} {a o : T} {k : C} (h : Z st k (bn s a d o)) (ha : a.top = some i) : decide (st.lf d.i = some i) = s := by
  have dj := (dj_iff.mp h.nd).ht
  cases s
  · have e : st.lf d.i = o.top := h.at.lf
    rw [e]
    refine decide_eq_false fun e2 => ?_
    exact (nd_node dj).2.2.2.2 _ (top_mem e2) (top_mem ha)
  · have e : st.lf d.i = a.top := h.at.lf
    rw [e, ha]; exact decide_eq_true rfl
theorem Z.setRoot {l r : T} {d : D} (h : Z st [] (.node l d r)) : Z (st.sRed d.i false) [] (blk (.node l d r)) := h.sRed false

theorem Z.recol {s s2 : Bool} {p g ud : D} {o ul ur t : T} {c2 : C} (h : Z st (fr s p o :: fr s2 g (.node ul ud ur) :: c2) t) :
    Z (((st.sRed p.i false).sRed ud.i false).sRed g.i true) c2 (bn s2 (bn s t { p with red := false } o) { g with red := true } (blk (.node ul ud ur))) := by
  have h1 := Z.fr_iff.mp ((Z.fr_iff.mp h).bnRed false)
  rw [← bn_not] at h1
  have h3 := Z.fr_iff.mp ((Z.fr_iff.mpr h1).sRed false)
  rw [bn_not] at h3
  exact h3.bnRed true
theorem recol_keys {s s2 : Bool} {p g : D} {o u t : T} {c2 : C} : keysAt c2 (bn s2 (bn s t { p with red := false } o) { g with red := true } (blk u)) = keysAt (fr s p o :: fr s2 g u :: c2) t := by
  rw [keysAt_fr, keysAt_fr]
  cases s <;> cases s2 <;> simp [keysAt, bn, T.keys, blk_keys, D.key]
theorem Z.paTop {t : T} {j : Nat} {k : C} (h : Z st k t) (ht : t.top = some j) : st.pa j = ctop k := by
  cases t with
  | nil => cases ht
  | node l d r => cases ht; exact h.at.pa
theorem ctop_fr {s : Bool} {d : D} {o : T} {k : C} : ctop (fr s d o :: k) = some d.i := congrArg some (fr_i ..)
theorem rotI {s : Bool} {x y : D} {q u w : T} {c2 : C} {j : Nat} (h : Z st c2 (rot (!s) x y u w q)) (hq : q.top = some j) (hy : y.red = false) : redO st (st.pa j) = false := by
  have h1 : Z st (fr s (rotY x y u w q) (bn (!s) u (rotX x u w) w) :: c2) q := Z.fr_iff.mpr (by rw [← bn_not]; exact h)
  rw [h1.paTop hq, ctop_fr]
  exact (Z.fr_iff.mp h1).bnAt.red.trans hy
theorem rotIk {s : Bool} {g x : D} {q u y : T} {c2 : C} : keysAt c2 (rot (!s) { g with red := true } { x with red := false } u y q) = keysAt (fr s g u :: c2) (bn s q x y) := by
  rw [rot_keys, keysAt_fr]
  cases s <;> simp [keysAt, bn, T.keys, D.key]
theorem plug_ne {k : C} : ∀ {t : T}, t ≠ .nil → plug k t ≠ .nil := by
  induction k with
  | nil => exact fun h => h
  | cons f k ih => exact fun h => ih (by cases f <;> exact fun e => by cases e)
theorem insFin {k : C} {t : T} {n j : Nat} (h : Z st k t) (ht : t.top = some j) (hi : InsA k t n) (hr : redO st (st.pa j) = false) : ∃ w, Z st [] w ∧ Good (blk w) ∧ w.keys = keysAt k t ∧ w ≠ .nil := by
  refine ⟨plug k t, Z.all_iff.mp h, ?_, ?_, ?_⟩
  · rcases k with _ | ⟨f, c1⟩
    · exact ⟨blk_Lm.mpr hi.lm, ⟨_, blk_BH hi.red hi.bh⟩, blk_red⟩
    · obtain ⟨s, p, o, rfl⟩ := exists_fr f
      rw [h.paTop ht, ctop_fr] at hr
      have hp : p.red = false := (Z.fr_iff.mp h).bnAt.red.symm.trans hr
      have := hi.black rfl hp
      rw [blk_of this.red]; exact this
  · rw [← keysAt_nil, ← keysAt_plug, List.append_nil]
  · exact plug_ne (fun e => by rw [e] at ht; cases ht)

inductive colInsS (xs : List V) (st : St) (Q : V → St → Prop) : Prop
  | mk : ∀ k t n i, (xs = [.tree, .node i]) → (t.top = some i) → (Z st k t) → ((∀ i, st.off i = 0)) → (InsA k t n) → (∀ st' w, Z st' [] w → w.keys = keysAt k t → Good w → Kp st st' → Q .none st') → colInsS xs st Q
theorem colIns_i {v : V} {k : C} {t : T} {n i : Nat} {Q : V → St → Prop} (ha : ptr v = some (some i)) (ht : t.top = some i) (h : Z st k t) (z : ∀ i, st.off i = 0) (hi : InsA k t n)
    (q : ∀ st' w, Z st' [] w → w.keys = keysAt k t → Good w → Kp st st' → Q .none st') : colInsS [.tree, v] st Q := ⟨k, t, n, i, by rw [ov_ptr ha]; rfl, ht, h, z, hi, q⟩

inductive CIW (st : St) (ks : List Kt) (m : Nat) (ρ : Env0) (s1 : St) : Prop
  | mk : ∀ j, ρ = ([("tree", .tree), ("node", .node j)] : Env0) → Kp st s1 → ((∃ c' t' n', m = c'.length + 1 ∧ t'.top = some j ∧ Z s1 c' t' ∧ InsA c' t' n' ∧ keysAt c' t' = ks) ∨
      (m = 0 ∧ ∃ w, Z s1 [] w ∧ Good w ∧ w.keys = ks ∧ redO s1 (s1.pa j) = false ∧ w ≠ .nil)) → CIW st ks m ρ s1
theorem colIns_body {k : C} {t : T} {n i : Nat} {Q : V → St → Prop} (wk : W.Ok) (ok : c.Ok W 3) (hc : c.cs = scopeOf (stmtAt 11)) (H1 : Fn W 1 "turn_left" turnLS) (H2 : Fn W 1 "turn_right" turnRS) (H3 : Fn W 0 "is_red" isRedS) (H4 : Fn W 2 "turned_inward" turnedS)
  (ht : t.top = some i) (h : Z st k t) (z : ∀ i, st.off i = 0) (hi : InsA k t n) (q : ∀ st' w, Z st' [] w → w.keys = keysAt k t → Good w → Kp st st' → Q .none st') :
  TriS W c (bodyOf (stmtAt 11)) [("tree", .tree), ("node", .node i)] st (LeaveQ st.lists.length Q) := by
  refine TriS_cons ?_
  refine TriX_while (CIW st (keysAt k t))
    ⟨_, _, Sub.refl, i, rfl, Kp.refl st, .inl ⟨k, t, n, rfl, ht, h, hi, rfl⟩⟩ ?_
  rintro m ρ s1 ⟨j, rfl, k1, hI⟩
  have z1 : ∀ i, s1.off i = 0 := fun i => by rw [k1.off]; exact z i
  walk_at "ovs"
  apply if_b <;> intro hr
  · rcases hI with ⟨c', t', n', rfl, ht', hZ, hA, hk⟩ | ⟨-, w, -, -, -, e, -⟩
    case inr => cases e.symm.trans hr
    rcases c' with _ | ⟨f, c1⟩
    · have : s1.pa j = none := by
        cases t' with
        | nil => cases ht'
        | node l d r => cases ht'; exact hZ.at.pa
      rw [this] at hr; cases hr
    obtain ⟨s, p, o, rfl⟩ := exists_fr f
    have hpa : s1.pa j = some p.i := by
      cases t' with
      | nil => cases ht'
      | node l d r => cases ht'; exact hZ.at.pa.trans (congrArg some (fr_i ..))
    have hZp := Z.fr_iff.mp hZ
    have hpr : p.red = true := by
      rw [hpa] at hr
      exact hZp.bnAt.red.symm.trans hr
    obtain ⟨s2, g, u, c2, rfl, hg, bo, ro, bu, bc, lo, lu, e1, e2, lc⟩ := hA.up hpr
    have hZg := Z.fr_iff.mp hZp
    have hpp : s1.pa p.i = some g.i := hZp.bnAt.pa.trans (congrArg some (fr_i ..))
    have hsd := hZg.side (bn_top ..)
    have hfar := hZg.far
    have hured : redO s1 u.top = u.red := redO_rep (p := some g.i) (by cases s2; exact hZg.rt.2.1; exact hZg.rt.2.2)
    walk_at "ovs"
    rw [hpa, ovS]
    walk_at "ovs"
    rw [hpp, ovS]
    walk_at "ovs"
    rw [hsd]
    walk_at "ovs"
    cases s2 <;> walk_at "ovs"
    · have hfar := hfar
      simp only [Ov.far, if_true, if_false, Bool.false_eq_true] at hfar
      rw [hfar]
      walk_at "ovs"
      rw [hured]
      apply if_b <;> intro hu
      · rcases u with _ | ⟨ul, ud, ur⟩
        · cases hu
        walk_at "ovs"
        exact ⟨c2.length + 1, _, by simp, Sub.cons rfl (Sub.cons rfl Sub.nil), g.i, rfl, k1.trans ⟨rfl, rfl, rfl, rfl, rfl⟩, .inl ⟨c2, _, n' + 1, rfl, (by exact bn_top ..), hZ.recol, hA.recolour hpr hu, recol_keys.trans hk⟩⟩
      · walk_at "ovs"
        refine turned_I (ha := by walk_at "ov ptr") hZ z1 ht' hA.bh hA.red hA.lm bo ro lo e1 hpr fun s3 j' q3 x3 y3 h3 k3 hq rq bq by3 ry lq ly e3 hk3 => ?_
        have z3 : ∀ i, s3.off i = 0 := fun i => by rw [k3.off]; exact z1 i
        have hp3 := (Z.fr_iff.mpr h3).paTop hq
        rw [ctop_fr] at hp3
        have h4 := (Z.fr_iff.mp (h3.bnRed false)).bnRed true
        walk_at "ovs"
        refine turnL_Z (x := { g with red := true }) (y := { x3 with red := false }) (k := c2) (a := u) (b := y3) (e := q3) (by walk_at "ov ptr") h4 z3 fun s5 h5 k5 => ?_
        walk_at "ovs"
        have h6 := h5
        refine ⟨0, _, by simp, Sub.cons rfl (Sub.cons rfl Sub.nil), j', rfl, (k1.trans k3).trans (Kp.trans (b := (s3.sRed x3.i false).sRed g.i true) ⟨rfl, rfl, rfl, rfl, rfl⟩ k5), .inr ⟨rfl, _, Z.all_iff.mp h5, ins_final (s2 := false) bq rq by3 ry bu hu bc lq ly lu (by rw [e3, ← e2]; exact lc), ?_, rotI (s := false) h5 hq rfl, ?_⟩⟩
        · rw [← keysAt_nil, ← keysAt_plug, List.append_nil]
          exact (rotIk (s := false)).trans (hk3.trans hk)
        · exact plug_ne (fun e => by cases e)
    · have hfar := hfar
      simp only [Ov.far, if_true, if_false, Bool.false_eq_true] at hfar
      rw [hfar]
      walk_at "ovs"
      rw [hured]
      apply if_b <;> intro hu
      · rcases u with _ | ⟨ul, ud, ur⟩
        · cases hu
        walk_at "ovs"
        exact ⟨c2.length + 1, _, by simp, Sub.cons rfl (Sub.cons rfl Sub.nil), g.i, rfl, k1.trans ⟨rfl, rfl, rfl, rfl, rfl⟩, .inl ⟨c2, _, n' + 1, rfl, (by exact bn_top ..), hZ.recol, hA.recolour hpr hu, recol_keys.trans hk⟩⟩
      · walk_at "ovs"
        refine turned_I (ha := by walk_at "ov ptr") hZ z1 ht' hA.bh hA.red hA.lm bo ro lo e1 hpr fun s3 j' q3 x3 y3 h3 k3 hq rq bq by3 ry lq ly e3 hk3 => ?_
        have z3 : ∀ i, s3.off i = 0 := fun i => by rw [k3.off]; exact z1 i
        have hp3 := (Z.fr_iff.mpr h3).paTop hq
        rw [ctop_fr] at hp3
        have h4 := (Z.fr_iff.mp (h3.bnRed false)).bnRed true
        walk_at "ovs"
        refine turnR_Z (x := { g with red := true }) (y := { x3 with red := false }) (k := c2) (a := u) (b := y3) (e := q3) (by walk_at "ov ptr") h4 z3 fun s5 h5 k5 => ?_
        walk_at "ovs"
        have h6 := h5
        refine ⟨0, _, by simp, Sub.cons rfl (Sub.cons rfl Sub.nil), j', rfl, (k1.trans k3).trans (Kp.trans (b := (s3.sRed x3.i false).sRed g.i true) ⟨rfl, rfl, rfl, rfl, rfl⟩ k5), .inr ⟨rfl, _, Z.all_iff.mp h5, ins_final (s2 := true) bq rq by3 ry bu hu bc lq ly lu (by rw [e3, ← e2]; exact lc), ?_, rotI (s := true) h5 hq rfl, ?_⟩⟩
        · rw [← keysAt_nil, ← keysAt_plug, List.append_nil]
          exact (rotIk (s := true)).trans (hk3.trans hk)
        · exact plug_ne (fun e => by cases e)
  · have fin : ∃ w, Z s1 [] w ∧ Good (blk w) ∧ w.keys = keysAt k t ∧ w ≠ .nil := by
      rcases hI with ⟨c', t', n', -, ht', hZ, hA, hk⟩ | ⟨-, w, h1, h2, h3, -, h4⟩
      · obtain ⟨w, h1, h2, h3, h4⟩ := insFin hZ ht' hA hr
        exact ⟨w, h1, h2, h3.trans hk, h4⟩
      · exact ⟨w, h1, by rw [blk_of h2.red]; exact h2, h3, h4⟩
    obtain ⟨w, hw, gw, kw, nw⟩ := fin
    rcases w with _ | ⟨l, d, r⟩
    · exact absurd rfl nw
    have hroot : s1.root = some d.i := hw.rc
    walk_at "ovs"
    exact leave_next (congrArg List.length k1.lists) (q _ _ hw.setRoot (blk_keys.trans kw) gw (k1.trans ⟨rfl, rfl, rfl, rfl, rfl⟩))
theorem fn_colIns (wk : W.Ok) (D : Defd W "colour_inserted" 11) (H1 : Fn W 1 "turn_left" turnLS) (H2 : Fn W 1 "turn_right" turnRS) (H3 : Fn W 0 "is_red" isRedS) (H4 : Fn W 2 "turned_inward" turnedS) : Fn W 3 "colour_inserted" colInsS :=
  Fn.mk D fun f hf => FnOK.of_body (ns := ["tree", "node"]) hf (fun _ _ _ _ _ => args2 fun _ _ => rfl) (by decide) (by decide) (by rintro xs st Q ⟨k, t, n, i, rfl, -⟩; rfl)
    (by rintro c st xs Q ok hc ⟨k, t, n, i, rfl, h1, h2, h3, h4, h5⟩; exact colIns_body wk ok hc H1 H2 H3 H4 h1 h2 h3 h4 h5) (by decide) rfl rfl rfl
end
end
-- == P4
section
set_option linter.unusedVariables false

structure DelA (k : C) (t : T) (n : Nat) : Prop where
  bh : BH t n
  bc : BC k false (n + 1)
  lm : Lm t
  lc : LmC k t.mo
theorem BC_weak {k : C} {n : Nat} (h : BC k true n) : BC k false n := by
  rcases k with _ | ⟨f, k⟩
  · cases h
  · obtain ⟨s, d, o, rfl⟩ := exists_fr f
    obtain ⟨h1, h2⟩ := BC_fr.mp h
    rcases h2 with ⟨_, e, _⟩ | h2
    · cases e
    · exact BC_fr.mpr ⟨h1, .inr h2⟩
theorem BC_any {k : C} {n : Nat} {q : Bool} (h : BC k q n) : BC k false n := by cases q; exact h; exact BC_weak h
theorem DelA.open {s : Bool} {p : D} {o t : T} {k : C} {n : Nat} (h : DelA (fr s p o :: k) t n) :
    BH o (n + 1) ∧ Lm o ∧ p.m = gr p.e t.mo o.mo ∧ LmC k (some p.m) ∧ ((p.red = true ∧ o.red = false ∧ BC k true (n + 1)) ∨ (p.red = false ∧ BC k false (n + 2))) := by
  obtain ⟨h1, h2⟩ := BC_fr.mp h.bc
  obtain ⟨l1, l2, l3⟩ := LmC_fr.mp h.lc
  refine ⟨h1, l2, l1, l3, ?_⟩
  rcases h2 with ⟨a, _, b, d⟩ | h2
  · exact .inl ⟨a, b, d⟩
  · exact .inr h2
theorem BH_red {s : Bool} {d : D} {a b : T} {n : Nat} (h : BH (bn s a d b) n) (r : d.red = true) : a.red = false ∧ b.red = false ∧ BH a n ∧ BH b n := by
  rcases BH_bn.mp h with ⟨_, h⟩ | ⟨e, _⟩
  · exact h
  · cases r.symm.trans e
theorem BH_black {s : Bool} {d : D} {a b : T} {n : Nat} (h : BH (bn s a d b) (n + 1)) (r : d.red = false) : BH a n ∧ BH b n := by
  rcases BH_bn.mp h with ⟨e, _⟩ | ⟨_, k, e, h⟩
  · cases e.symm.trans r
  · cases e; exact h
theorem BH_succ {t : T} {n : Nat} (s : Bool) (h : BH t (n + 1)) : ∃ a d b, t = bn s a d b := by
  cases t with
  | nil => cases h
  | node l d r => cases s; exact ⟨r, d, l, rfl⟩; exact ⟨l, d, r, rfl⟩
theorem red_bn {t : T} (s : Bool) (h : t.red = true) : ∃ a d b, t = bn s a d b := by
  cases t with
  | nil => cases h
  | node l d r => cases s; exact ⟨r, d, l, rfl⟩; exact ⟨l, d, r, rfl⟩
/-- the sibling is red -/
theorem DelA.turn {s : Bool} {p y : D} {b e t : T} {k : C} {n : Nat} (h : DelA (fr s p (bn s b y e) :: k) t n) (hy : y.red = true) :
    DelA (fr s (rotX { p with red := true } t b) b :: fr s (rotY { p with red := true } { y with red := false } t b e) e :: k) t n ∧ b.red = false := by
  obtain ⟨h1, h2, h3, h4, h5⟩ := h.open
  obtain ⟨r1, r2, b1, b2⟩ := BH_red h1 hy
  obtain ⟨l1, l2, l3⟩ := Lm_bn.mp h2
  refine ⟨⟨h.bh, ?_, h.lm, ?_⟩, r1⟩
  · rcases h5 with ⟨_, e, _⟩ | ⟨_, h5⟩
    · rw [bn_red, hy] at e; cases e
    · exact BC_fr.mpr ⟨b1, .inl ⟨rfl, rfl, r1, BC_fr.mpr ⟨b2, .inr ⟨rfl, h5⟩⟩⟩⟩
  · refine LmC_fr.mpr ⟨rfl, l2, LmC_fr.mpr ⟨rfl, l3, ?_⟩⟩
    show LmC k (some (gr y.e (some (gr p.e t.mo b.mo)) e.mo))
    rw [h3, bn_mo, l1] at h4
    rw [gr_rot]; exact h4
theorem plug_keys {k : C} {t : T} : (plug k t).keys = keysAt k t := by rw [← keysAt_nil, ← keysAt_plug, List.append_nil]
/-- the last turn of a deletion -/
theorem del_final {s : Bool} {p y : D} {t b e : T} {k : C} {n : Nat} (h : DelA (fr s p (bn s b y e) :: k) t n) (hy : y.red = false) (he : e.red = true) :
    Good (plug k (rot s { p with red := false } { y with red := p.red } t b (blk e))) := by
  obtain ⟨h1, h2, h3, h4, h5⟩ := h.open
  obtain ⟨b1, b2⟩ := BH_black h1 hy
  obtain ⟨l1, l2, l3⟩ := Lm_bn.mp h2
  have be := blk_BH he b2
  have ht : BH (bn s t (rotX { p with red := false } t b) b) (n + 1) := BH_bn.mpr (.inr ⟨rfl, n, rfl, h.bh, b1⟩)
  have hl : Lm (rot s { p with red := false } { y with red := p.red } t b (blk e)) := by
    refine Lm_bn.mpr ⟨?_, Lm_bn.mpr ⟨rfl, h.lm, l2⟩, blk_Lm.mpr l3⟩
    rw [bn_mo]; rfl
  have hc : LmC k (rot s { p with red := false } { y with red := p.red } t b (blk e)).mo := by
    unfold rot
    rw [bn_mo]
    show LmC k (some (gr y.e (some (gr p.e t.mo b.mo)) (blk e).mo))
    rw [h3, bn_mo, l1] at h4
    rw [gr_rot, blk_mo]; exact h4
  rcases h5 with ⟨r, _, h5⟩ | ⟨r, h5⟩
  · have hb : BH (rot s { p with red := false } { y with red := p.red } t b (blk e)) (n + 1) := BH_bn.mpr (.inl ⟨r, bn_red .., blk_red, ht, be⟩)
    obtain ⟨g1, g2⟩ := BH_plug (c := k) hb (by unfold rot; rw [bn_red]; show BC k p.red _; rw [r]; exact h5)
    exact ⟨Lm_plug hl hc, g1, g2⟩
  · have hb : BH (rot s { p with red := false } { y with red := p.red } t b (blk e)) (n + 2) := BH_bn.mpr (.inr ⟨r, n + 1, rfl, ht, be⟩)
    obtain ⟨g1, g2⟩ := BH_plug (c := k) hb (by unfold rot; rw [bn_red]; show BC k p.red _; rw [r]; exact h5)
    exact ⟨Lm_plug hl hc, g1, g2⟩
/-- the inner nephew alone is red: turned outward -/
theorem DelA.inner {s : Bool} {p y z : D} {t b1 b2 e : T} {k : C} {n : Nat} (h : DelA (fr s p (bn s (bn s b1 z b2) y e) :: k) t n) (hy : y.red = false) (hz : z.red = true) (he : e.red = false) :
    DelA (fr s p (bn s b1 (rotY { y with red := true } { z with red := false } e b2 b1) (bn s b2 (rotX { y with red := true } e b2) e)) :: k) t n := by
  obtain ⟨h1, h2, h3, h4, h5⟩ := h.open
  obtain ⟨c1, c2⟩ := BH_black h1 hy
  obtain ⟨r1, r2, d1, d2⟩ := BH_red c1 hz
  obtain ⟨l1, l2, l3⟩ := Lm_bn.mp h2
  obtain ⟨m1, m2, m3⟩ := Lm_bn.mp l2
  refine ⟨h.bh, BC_fr.mpr ⟨BH_bn.mpr (.inr ⟨rfl, n, rfl, d1, BH_bn.mpr (.inl ⟨rfl, r2, he, d2, c2⟩)⟩), ?_⟩, h.lm, LmC_fr.mpr ⟨?_, Lm_bn.mpr ⟨?_, m2, Lm_bn.mpr ⟨?_, m3, l3⟩⟩, h4⟩⟩
  · rcases h5 with ⟨a, _, h5⟩ | h5
    · exact .inl ⟨a, rfl, by rw [bn_red]; rfl, h5⟩
    · exact .inr h5
  · rw [bn_mo]
    rw [h3, bn_mo, l1, bn_mo, m1]
    have : gr y.e (some (gr z.e b1.mo b2.mo)) e.mo = gr z.e (some (gr y.e e.mo b2.mo)) b1.mo := by
      rw [gr_rot, gr_comm z.e, gr_comm y.e]
    rw [this]; rfl
  · rw [bn_mo]
    exact gr_comm ..
  · exact gr_comm ..
/-- both nephews black, the parent red or the root -/
theorem DelA.light {s : Bool} {p y : D} {t b e : T} {k : C} {n : Nat} (h : DelA (fr s p (bn s b y e) :: k) t n) (hy : y.red = false) (he : e.red = false) (hb : b.red = false) :
    (p.red = true ∨ k = [] → Good (plug k (bn s t { p with red := false } (bn s b { y with red := true } e)))) ∧
    (p.red = false → DelA k (bn s t p (bn s b { y with red := true } e)) (n + 1)) := by
  obtain ⟨h1, h2, h3, h4, h5⟩ := h.open
  obtain ⟨c1, c2⟩ := BH_black h1 hy
  obtain ⟨l1, l2, l3⟩ := Lm_bn.mp h2
  have bo : BH (bn s b { y with red := true } e) n := BH_bn.mpr (.inl ⟨rfl, hb, he, c1, c2⟩)
  have lo : Lm (bn s b { y with red := true } e) := Lm_bn.mpr ⟨l1, l2, l3⟩
  refine ⟨fun hp => ?_, fun hp => ⟨BH_bn.mpr (.inr ⟨hp, n, rfl, h.bh, bo⟩), ?_, Lm_bn.mpr ⟨by rw [bn_mo]; rw [bn_mo] at h3; exact h3, h.lm, lo⟩, by rw [bn_mo]; exact h4⟩⟩
  · have bt : BH (bn s t { p with red := false } (bn s b { y with red := true } e)) (n + 1) := BH_bn.mpr (.inr ⟨rfl, n, rfl, h.bh, bo⟩)
    have lt : Lm (bn s t { p with red := false } (bn s b { y with red := true } e)) := Lm_bn.mpr ⟨by rw [bn_mo]; rw [bn_mo] at h3; exact h3, h.lm, lo⟩
    have hc : BC k false (n + 1) := by
      rcases h5 with ⟨_, _, h5⟩ | ⟨r, h5⟩
      · exact BC_weak h5
      · rcases hp with hp | hp
        · cases hp.symm.trans r
        · subst hp; rfl
    obtain ⟨g1, g2⟩ := BH_plug (c := k) bt (by rw [bn_red]; exact hc)
    exact ⟨Lm_plug lt (by rw [bn_mo]; exact h4), g1, g2⟩
  · rcases h5 with ⟨r, _⟩ | ⟨_, h5⟩
    · cases r.symm.trans hp
    · exact h5
theorem DelA.light_nr {s : Bool} {p y : D} {t b e : T} : (bn s t p (bn s b y e)).red = p.red := bn_red ..
/-- a whole tree, lightened at its root or at a red hole -/
theorem DelA.done_root {t : T} {n : Nat} (h : DelA [] t n) : Good (blk t) := by
  refine ⟨blk_Lm.mpr h.lm, ?_, blk_red⟩
  by_cases r : t.red = true
  · exact ⟨_, blk_BH r h.bh⟩
  · rw [blk_of (by simpa using r)]; exact ⟨_, h.bh⟩
theorem DelA.done_red {k : C} {t : T} {n : Nat} (h : DelA k t n) (r : t.red = true) : Good (plug k (blk t)) := by
  obtain ⟨g1, g2⟩ := BH_plug (c := k) (blk_BH r h.bh) (by rw [blk_red]; exact h.bc)
  exact ⟨Lm_plug (blk_Lm.mpr h.lm) (by rw [blk_mo]; exact h.lc), g1, g2⟩
end
-- == M22
section
open PySem PySem.W PySem.Calls PyProof.Rows
set_option linter.unusedVariables false
set_option linter.unusedSimpArgs false
set_option maxRecDepth 100000
set_option maxHeartbeats 4000000
section
variable {W : Wc} {c : Fc} {ρ : Env0} {st : St}

theorem Z.far_iff {s : Bool} {d : D} {a b : T} {k : C} : Z st (fr (!s) d a :: k) b ↔ Z st k (bn s a d b) := by rw [Z.fr_iff, bn_not]
theorem Z.redO_near {s : Bool} {d : D} {a b : T} {k : C} (h : Z st k (bn s a d b)) : redO st a.top = a.red := redO_rep (Z.fr_iff.mpr h).rt
theorem Z.redO_far {s : Bool} {d : D} {a b : T} {k : C} (h : Z st k (bn s a d b)) : redO st b.top = b.red := redO_rep (Z.far_iff.mpr h).rt
theorem RepC.rootIn {k : C} : ∀ {q : Option Nat}, RepC st k q → k ≠ [] → ∃ j ∈ cids k, st.root = some j := by
  induction k with
  | nil => exact fun _ h => absurd rfl h
  | cons f k ih =>
    intro q h _
    by_cases e : k = []
    · subst e
      cases f with
      | L d r => exact ⟨d.i, mem_cids_L.mpr (.inl rfl), h.2.2⟩
      | R l d => exact ⟨d.i, mem_cids_R.mpr (.inl rfl), h.2.2⟩
    · cases f with
      | L d r => obtain ⟨j, h1, h2⟩ := ih h.2.2 e; exact ⟨j, mem_cids_L.mpr (.inr (.inr h1)), h2⟩
      | R l d => obtain ⟨j, h1, h2⟩ := ih h.2.2 e; exact ⟨j, mem_cids_R.mpr (.inr (.inr h1)), h2⟩
theorem Z.root_ne {k : C} {t : T} {i : Nat} (h : Z st k t) (ht : t.top = some i) (hk : k ≠ []) : st.root ≠ some i := fun e => by
  obtain ⟨j, h1, h2⟩ := h.rc.rootIn hk
  cases h2.symm.trans e
  exact (dj_iff.mp h.nd).d _ (top_mem ht) h1
theorem Z.rec3 {s : Bool} {p y ed : D} {t b el er : T} {k : C} (h : Z st (fr s p (bn s b y (.node el ed er)) :: k) t) :
    Z (((st.sRed y.i (st.red p.i)).sRed p.i false).sRed ed.i false) k (bn s t { p with red := false } (bn s b { y with red := p.red } (blk (.node el ed er)))) := by
  have h0 := Z.fr_iff.mp h
  have hp : st.red p.i = p.red := h0.bnAt.red
  have h1 := Z.far_iff.mp ((Z.far_iff.mpr h0).bnRed p.red)
  have h2 := Z.far_iff.mpr (h1.bnRed false)
  have h3 := Z.far_iff.mp (Z.far_iff.mp ((Z.far_iff.mpr h2).sRed false))
  rw [hp]; exact h3
noncomputable def LastQ (st : St) (k : C) (ks : List Kt) (Q : V → St → Prop) : Prop := ∀ st' w, Z st' [] w → w.keys = ks → Good w → Kp st st' → Q .none st'

theorem light_last {s : Bool} {p y : D} {t b e : T} {k : C} {n N : Nat} {v1 v2 : V} {Q : V → St → Prop} (wk : W.Ok) (ok : c.Ok W 3) (hc : c.cs = scopeOf (stmtAt 20)) (H1 : Fn W 2 "turn_towards" turnTS)
  (h : Z st (fr s p (bn s b y e) :: k) t) (z : ∀ i, st.off i = 0) (hA : DelA (fr s p (bn s b y e) :: k) t n) (hy : y.red = false) (he : e.red = true) (hN : st.lists.length = N)
  (q : ∀ st' w, Z st' [] w → w.keys = keysAt (fr s p (bn s b y e) :: k) t → Good w → Kp st st' → Q .none st') :
  TriS W c ((bodyOf (stmtAt 20)).drop 6) [("tree", .tree), ("node", v1), ("parent", .node p.i), ("is_left", .bool s), ("other", .node y.i), ("outer", ov e.top), ("inner", v2)] st (LeaveQ N Q) := by
  rcases e with _ | ⟨el, ed, er⟩
  · cases he
  have h3 := h.rec3
  refine TriS_cons ?_
  walk_at "ovs"
  refine turnT_i (by walk_at "ov ptr") (x := { p with red := false }) (y := { y with red := p.red }) h3 z fun s4 h4 k4 => ?_
  walk_at "ovs"
  refine leave_ret rfl ((congrArg List.length k4.lists).trans hN) (q _ _ (Z.all_iff.mp h4) ?_ (del_final hA hy he) (Kp.trans (b := ((st.sRed y.i (st.red p.i)).sRed p.i false).sRed ed.i false) ⟨rfl, rfl, rfl, rfl, rfl⟩ k4))
  rw [plug_keys, rot_keys, keysAt_fr]
  cases s <;> simp [keysAt, bn, T.keys, D.key, blk]
noncomputable def lightQ (st : St) (k : C) (ks : List Kt) (n : Nat) (Q : V → St → Prop) : Prop :=
  ∀ st' k' t' j, k' ≠ [] → k'.length ≤ k.length → Z st' k' t' → DelA k' t' (n + 1) → t'.top = some j → t'.red = false → keysAt k' t' = ks → Kp st st' → Q (.node j) st'
theorem light_rest {s : Bool} {p y : D} {t b e : T} {k : C} {n N : Nat} {v1 : V} {Q : V → St → Prop} (wk : W.Ok) (ok : c.Ok W 3) (hc : c.cs = scopeOf (stmtAt 20)) (H1 : Fn W 2 "turn_towards" turnTS) (H2 : Fn W 0 "is_red" isRedS) (H3 : Fn W 0 "sibling_of" siblingS)
  (h : Z st (fr s p (bn s b y e) :: k) t) (z : ∀ i, st.off i = 0) (hA : DelA (fr s p (bn s b y e) :: k) t n) (hy : y.red = false) (hN : st.lists.length = N)
  (q : ∀ st' w, Z st' [] w → w.keys = keysAt (fr s p (bn s b y e) :: k) t → Good w → Kp st st' → Q .none st')
  (q2 : p.red = false → lightQ st k (keysAt (fr s p (bn s b y e) :: k) t) n Q) :
  TriS W c ((bodyOf (stmtAt 20)).drop 2) [("tree", .tree), ("node", v1), ("parent", .node p.i), ("is_left", .bool s), ("other", .node y.i)] st (LeaveQ N Q) := by
  have h0 := Z.fr_iff.mp h
  have hO := Z.far_iff.mpr h0
  have hfar := hO.far
  have hnear := hO.bnAt.nr
  have hre := hO.redO_far
  have hrb := hO.redO_near
  have hO1 := hO.bnRed true
  have h01 := Z.far_iff.mp hO1
  have hpr1 : (st.sRed y.i true).red p.i = p.red := h01.bnAt.red
  have hlast := fun (he : e.red = true) => light_last (v1 := v1) (v2 := ov b.top) wk ok hc H1 h z hA hy he hN q
  refine TriS_cons ?_
  cases s
  · simp only [Ov.far, Ov.near, if_true, if_false, Bool.false_eq_true] at hfar hnear
    walk_at "ovs"
    rw [hfar]
    walk_at "ovs"
    rw [hnear]
    walk_at "ovs"
    rw [hre]
    apply if_nb <;> intro he
    · walk_at "ovs"
      rw [hrb]
      apply if_nb <;> intro hb
      · obtain ⟨g1, g2⟩ := hA.light hy he hb
        walk_at "ovs"
        rw [hpr1]
        apply if_b <;> intro hp
        · walk_at "ovs"
          refine leave_ret rfl hN (q _ _ (Z.all_iff.mp (h01.bnRed false)) ?_ (g1 (.inl hp)) ⟨rfl, rfl, rfl, rfl, rfl⟩)
          rw [plug_keys, keysAt_fr]
          simp [keysAt, bn, T.keys, D.key]
        · walk_at "ovs"
          apply if_dec <;> intro hr
          · have hk : k = [] := by
              by_cases hk : k = []
              · exact hk
              · exact absurd hr.symm (h01.root_ne (bn_top ..) hk)
            walk_at "ovs"
            refine leave_ret rfl hN (q _ _ (Z.all_iff.mp (h01.bnRed false)) ?_ (g1 (.inr hk)) ⟨rfl, rfl, rfl, rfl, rfl⟩)
            rw [plug_keys, keysAt_fr]
            simp [keysAt, bn, T.keys, D.key]
          · walk_at "ovs"
            refine leave_ret rfl hN (q2 hp _ _ _ _ (fun hk => ?_) (Nat.le_refl _) h01 (g2 hp) (bn_top ..) (by rw [bn_red]; exact hp) ?_ ⟨rfl, rfl, rfl, rfl, rfl⟩)
            · subst hk; exact hr h01.rc.symm
            · rw [keysAt_fr]
              simp [keysAt, bn, T.keys, D.key]
      · obtain ⟨b1, zd, b2, rfl⟩ := red_bn false hb
        rw [bn_red] at hb
        have hin := hA.inner hy hb he
        have hT := (Z.fr_iff.mp ((Z.fr_iff.mpr hO).bnRed false)).bnRed true
        rw [← bn_not, ← bn_not false] at hT
        walk_at "ovs"
        rw [hre, he]
        walk_at "ovs"
        refine turnT_i (s := !false) (by walk_at "ov ptr") hT z fun s3 h3 k3 => ?_
        have h3' : Z s3 (fr false p (bn false b1 (rotY { y with red := true } { zd with red := false } e b2 b1) (bn false b2 (rotX { y with red := true } e b2) e)) :: k) t := by
          refine Z.fr_iff.mpr (Z.far_iff.mp ?_)
          unfold rot at h3
          rw [bn_not, bn_not] at h3
          exact h3
        have z3 : ∀ i, s3.off i = 0 := fun i => by rw [k3.off]; exact z i
        have k3' : Kp st s3 := Kp.trans (b := (st.sRed zd.i false).sRed y.i true) ⟨rfl, rfl, rfl, rfl, rfl⟩ k3
        have f3 := (Z.fr_iff.mp h3').far
        have g3 := (Z.far_iff.mpr (Z.fr_iff.mp h3')).far
        simp only [Ov.far, if_true, if_false, Bool.false_eq_true, bn_top] at f3 g3
        have hl := light_last (v1 := v1) (v2 := ov (bn false b1 zd b2).top) wk ok hc H1 h3' z3 hin rfl (by rw [bn_red]; rfl) ((congrArg List.length k3'.lists).trans hN) fun st' w h1 h2 h4 h5 => q st' w h1 (h2.trans (by rw [keysAt_fr, keysAt_fr]; simp [keysAt, bn, T.keys, D.key, rotX, rotY])) h4 (k3'.trans h5)
        rw [bn_top] at hl
        repeat (first | (rw [g3]; simp only [if_true, if_false, Bool.false_eq_true, f3]; exact hl) | walk_at "ov")
    · walk_at "ovs"
      rw [hre, he]
      exact if_nt (TriS_nil (hlast he))
  · simp only [Ov.far, Ov.near, if_true, if_false, Bool.false_eq_true] at hfar hnear
    walk_at "ovs"
    rw [hfar]
    walk_at "ovs"
    rw [hnear]
    walk_at "ovs"
    rw [hre]
    apply if_nb <;> intro he
    · walk_at "ovs"
      rw [hrb]
      apply if_nb <;> intro hb
      · obtain ⟨g1, g2⟩ := hA.light hy he hb
        walk_at "ovs"
        rw [hpr1]
        apply if_b <;> intro hp
        · walk_at "ovs"
          refine leave_ret rfl hN (q _ _ (Z.all_iff.mp (h01.bnRed false)) ?_ (g1 (.inl hp)) ⟨rfl, rfl, rfl, rfl, rfl⟩)
          rw [plug_keys, keysAt_fr]
          simp [keysAt, bn, T.keys, D.key]
        · walk_at "ovs"
          apply if_dec <;> intro hr
          · have hk : k = [] := by
              by_cases hk : k = []
              · exact hk
              · exact absurd hr.symm (h01.root_ne (bn_top ..) hk)
            walk_at "ovs"
            refine leave_ret rfl hN (q _ _ (Z.all_iff.mp (h01.bnRed false)) ?_ (g1 (.inr hk)) ⟨rfl, rfl, rfl, rfl, rfl⟩)
            rw [plug_keys, keysAt_fr]
            simp [keysAt, bn, T.keys, D.key]
          · walk_at "ovs"
            refine leave_ret rfl hN (q2 hp _ _ _ _ (fun hk => ?_) (Nat.le_refl _) h01 (g2 hp) (bn_top ..) (by rw [bn_red]; exact hp) ?_ ⟨rfl, rfl, rfl, rfl, rfl⟩)
            · subst hk; exact hr h01.rc.symm
            · rw [keysAt_fr]
              simp [keysAt, bn, T.keys, D.key]
      · obtain ⟨b1, zd, b2, rfl⟩ := red_bn true hb
        rw [bn_red] at hb
        have hin := hA.inner hy hb he
        have hT := (Z.fr_iff.mp ((Z.fr_iff.mpr hO).bnRed false)).bnRed true
        rw [← bn_not, ← bn_not true] at hT
        walk_at "ovs"
        rw [hre, he]
        walk_at "ovs"
        refine turnT_i (s := !true) (by walk_at "ov ptr") hT z fun s3 h3 k3 => ?_
        have h3' : Z s3 (fr true p (bn true b1 (rotY { y with red := true } { zd with red := false } e b2 b1) (bn true b2 (rotX { y with red := true } e b2) e)) :: k) t := by
          refine Z.fr_iff.mpr (Z.far_iff.mp ?_)
          unfold rot at h3
          rw [bn_not, bn_not] at h3
          exact h3
        have z3 : ∀ i, s3.off i = 0 := fun i => by rw [k3.off]; exact z i
        have k3' : Kp st s3 := Kp.trans (b := (st.sRed zd.i false).sRed y.i true) ⟨rfl, rfl, rfl, rfl, rfl⟩ k3
        have f3 := (Z.fr_iff.mp h3').far
        have g3 := (Z.far_iff.mpr (Z.fr_iff.mp h3')).far
        simp only [Ov.far, if_true, if_false, Bool.false_eq_true, bn_top] at f3 g3
        have hl := light_last (v1 := v1) (v2 := ov (bn true b1 zd b2).top) wk ok hc H1 h3' z3 hin rfl (by rw [bn_red]; rfl) ((congrArg List.length k3'.lists).trans hN) fun st' w h1 h2 h4 h5 => q st' w h1 (h2.trans (by rw [keysAt_fr, keysAt_fr]; simp [keysAt, bn, T.keys, D.key, rotX, rotY])) h4 (k3'.trans h5)
        rw [bn_top] at hl
        repeat (first | (rw [g3]; simp only [if_true, if_false, Bool.false_eq_true, f3]; exact hl) | walk_at "ov")
    · walk_at "ovs"
      rw [hre, he]
      exact if_nt (TriS_nil (hlast he))
inductive lightS (xs : List V) (st : St) (Q : V → St → Prop) : Prop
  | mk : ∀ s p o t k n v1, (xs = [.tree, v1, .node p.i, .bool s]) → (Z st (fr s p o :: k) t) → ((∀ i, st.off i = 0)) → (DelA (fr s p o :: k) t n) → ((∀ st' w, Z st' [] w → w.keys = keysAt (fr s p o :: k) t → Good w → Kp st st' → Q .none st')) → (lightQ st k (keysAt (fr s p o :: k) t) n Q) → lightS xs st Q
theorem light_body {s : Bool} {p : D} {t o : T} {k : C} {n : Nat} {v1 : V} {Q : V → St → Prop} (wk : W.Ok) (ok : c.Ok W 3) (hc : c.cs = scopeOf (stmtAt 20)) (H1 : Fn W 2 "turn_towards" turnTS) (H2 : Fn W 0 "is_red" isRedS) (H3 : Fn W 0 "sibling_of" siblingS)
  (h : Z st (fr s p o :: k) t) (z : ∀ i, st.off i = 0) (hA : DelA (fr s p o :: k) t n)
  (q : ∀ st' w, Z st' [] w → w.keys = keysAt (fr s p o :: k) t → Good w → Kp st st' → Q .none st') (q2 : lightQ st k (keysAt (fr s p o :: k) t) n Q) :
  TriS W c (bodyOf (stmtAt 20)) [("tree", .tree), ("node", v1), ("parent", .node p.i), ("is_left", .bool s)] st (LeaveQ st.lists.length Q) := by
  have h0 := Z.fr_iff.mp h
  have hO := Z.far_iff.mpr h0
  have hf := h0.far
  obtain ⟨b, y, e, rfl⟩ := BH_succ s hA.open.1
  have hr : redO st (some y.i) = y.red := hO.bnAt.red
  rw [bn_top] at hf
  unfold Ov.far at hf
  refine TriS_cons ?_
  walk_at "ovs"
  simp only [hf, hr, ovS]
  apply if_b <;> intro hy
  · obtain ⟨hA2, hb⟩ := hA.turn hy
    have h1 := (Z.far_iff.mp (hO.bnRed false)).bnRed true
    walk_at "ovs"
    refine turnT_i (by walk_at "ov ptr") h1 z fun s3 h3 k3 => ?_
    have h3' := Z.fr_iff.mpr (Z.fr_iff.mpr h3)
    have z3 : ∀ i, s3.off i = 0 := fun i => by rw [k3.off]; exact z i
    have k3' : Kp st s3 := Kp.trans (b := (st.sRed y.i false).sRed p.i true) ⟨rfl, rfl, rfl, rfl, rfl⟩ k3
    obtain ⟨b', yb, e', rfl⟩ := BH_succ s hA2.open.1
    rw [bn_red] at hb
    have f3 := (Z.fr_iff.mp h3').far
    rw [bn_top] at f3
    unfold Ov.far at f3
    have hl := light_rest (v1 := v1) wk ok hc H1 H2 H3 h3' z3 hA2 hb (congrArg List.length k3'.lists) (fun st' w g1 g2 g3 g4 => q st' w g1 (g2.trans (by
      rw [keysAt_fr, keysAt_fr, keysAt_fr]
      cases s <;> simp [keysAt, bn, T.keys, D.key, rotX, rotY])) g3 (k3'.trans g4)) (fun e => by cases e)
    repeat (first | (rw [show (rotX { p with red := true } t (bn s b' yb e')).i = p.i from rfl] at f3; rw [f3]; exact hl) | walk_at "ov")
  · have hl := light_rest (v1 := v1) wk ok hc H1 H2 H3 h z hA hy rfl q (fun _ => q2)
    exact TriS_nil hl
theorem fn_light (wk : W.Ok) (D : Defd W "lightened" 20) (H1 : Fn W 2 "turn_towards" turnTS) (H2 : Fn W 0 "is_red" isRedS) (H3 : Fn W 0 "sibling_of" siblingS) : Fn W 3 "lightened" lightS :=
  Fn.mk D fun f hf => FnOK.of_body (ns := ["tree", "node", "parent", "is_left"]) hf (fun _ _ _ _ _ => args4 fun _ _ _ _ => rfl) (by decide) (by decide) (by rintro xs st Q ⟨s, p, o, t, k, n, v1, rfl, -⟩; rfl)
    (by rintro c st xs Q ok hc ⟨s, p, o, t, k, n, v1, rfl, h1, h2, h3, h4, h5⟩; exact light_body wk ok hc H1 H2 H3 h1 h2 h3 h4 h5) (by decide) rfl rfl rfl
end
end
-- == M23
section
open PySem PySem.W PySem.Calls PyProof.Rows
set_option linter.unusedVariables false
set_option linter.unusedSimpArgs false
set_option maxRecDepth 100000
set_option maxHeartbeats 4000000
section
variable {W : Wc} {c : Fc} {ρ : Env0} {st : St}

theorem Z.side' {s : Bool} {d : D} {a b : T} {k : C} (h : Z st k (bn s a d b)) (hb : b ≠ .nil) : decide (st.lf d.i = a.top) = s := by
  cases s
  · have e : st.lf d.i = b.top := h.at.lf
    rw [e]
    refine decide_eq_false fun e2 => ?_
    rcases b with _ | ⟨bl, bd, br⟩
    · exact hb rfl
    · have dj := (dj_iff.mp h.nd).ht
      exact (nd_node dj).2.2.2.2 _ (top_mem (t := .node bl bd br) rfl) (top_mem e2.symm)
  · exact decide_eq_true h.at.lf
theorem Z.isRoot {k : C} {t : T} (h : Z st k t) : t.top = st.root ↔ k = [] := by
  constructor
  · intro e
    by_cases hk : k = []
    · exact hk
    · obtain ⟨j, h1, h2⟩ := h.rc.rootIn hk
      exact absurd (h2) (h.root_ne (e.trans h2) hk)
  · intro e; subst e; exact h.rc.symm
theorem light_i {v1 v2 : V} {s : Bool} {p : D} {o t : T} {k : C} {n : Nat} {Q : V → St → Prop} (ha : ptr v2 = some (some p.i)) (h : Z st (fr s p o :: k) t) (z : ∀ i, st.off i = 0) (hA : DelA (fr s p o :: k) t n)
    (q : ∀ st' w, Z st' [] w → w.keys = keysAt (fr s p o :: k) t → Good w → Kp st st' → Q .none st') (q2 : lightQ st k (keysAt (fr s p o :: k) t) n Q) : lightS [.tree, v1, v2, .bool s] st Q :=
  ⟨s, p, o, t, k, n, v1, by rw [ov_ptr ha]; rfl, h, z, hA, q, q2⟩

inductive colDropS (xs : List V) (st : St) (Q : V → St → Prop) : Prop
  | mk : ∀ t k n, (xs = [.tree, ov t.top, ov (ctop k)]) → (Z st k t) → ((∀ i, st.off i = 0)) → (DelA k t n) → ((∀ st' w, Z st' [] w → w.keys = keysAt k t → Good w → Kp st st' → Q .none st')) → colDropS xs st Q
inductive CDW (st : St) (ks : List Kt) (m : Nat) (ρ : Env0) (s1 : St) : Prop
  | mk : ∀ t' k' n', ρ = ([("tree", .tree), ("node", ov t'.top), ("parent", ov (ctop k'))] : Env0) → Kp st s1 → m = k'.length → Z s1 k' t' → DelA k' t' n' → keysAt k' t' = ks → CDW st ks m ρ s1
theorem colDrop_body {t : T} {k : C} {n : Nat} {Q : V → St → Prop} (wk : W.Ok) (ok : c.Ok W 4) (hc : c.cs = scopeOf (stmtAt 17)) (H1 : Fn W 3 "lightened" lightS) (H2 : Fn W 0 "is_red" isRedS)
  (h : Z st k t) (z : ∀ i, st.off i = 0) (hA : DelA k t n)
  (q : ∀ st' w, Z st' [] w → w.keys = keysAt k t → Good w → Kp st st' → Q .none st') :
  TriS W c (bodyOf (stmtAt 17)) [("tree", .tree), ("node", ov t.top), ("parent", ov (ctop k))] st (LeaveQ st.lists.length Q) := by
  refine TriS_cons ?_
  refine TriX_while (CDW st (keysAt k t))
    ⟨_, _, Sub.refl, t, k, n, rfl, Kp.refl st, rfl, h, hA, rfl⟩ ?_
  rintro m ρ s1 ⟨t', k', n', rfl, k1, rfl, hZ, hA', hk⟩
  have z1 : ∀ i, s1.off i = 0 := fun i => by rw [k1.off]; exact z i
  have hr : redO s1 t'.top = t'.red := redO_rep hZ.rt
  walk_at "ovs"
  apply if_ndec <;> intro h1
  · walk_at "ovs"
    rw [hr]
    apply if_nb <;> intro h2
    · rcases k' with _ | ⟨f, k2⟩
      · exact absurd (hZ.isRoot.mpr rfl) h1
      obtain ⟨s, p, o, rfl⟩ := exists_fr f
      have ho : o ≠ .nil := fun e => by
        have := hA'.open.1
        rw [e] at this; cases this
      have hsd := (Z.fr_iff.mp hZ).side' ho
      rw [← fr_i s p o] at hsd
      have hct : ctop (fr s p o :: k2) = some p.i := ctop_fr
      walk_at "ovs"
      rw [hsd]
      walk_at "ovs"
      refine light_i (by walk_at "ov ptr") hZ z1 hA' (fun s3 w g1 g2 g3 g4 => ?_) fun s3 k3 t3 j g0 g1 g2 g3 g4 g5 g6 g7 => ?_
      · walk_at "ovs"
        apply if_dec <;> intro h3
        · walk_at "ovs"
          exact leave_ret rfl (congrArg List.length (k1.trans g4).lists) (q _ _ g1 (g2.trans hk) g3 (k1.trans g4))
        · exact absurd rfl h3
      · have hpa := g2.paTop g4
        walk_at "ovs"
        apply if_dec <;> intro h3
        · cases h3
        walk_at "ovs"
        rw [hpa]
        exact ⟨k3.length, _, Nat.lt_succ_of_le g1, Sub.cons rfl (Sub.cons rfl (Sub.cons rfl Sub.nil)), t3, k3, n' + 1, by rw [g4], k1.trans g7, rfl, g2, g3, g6.trans hk⟩
    · rcases t' with _ | ⟨l, d, r⟩
      · cases h2
      walk_at "ovs"
      apply if_ndec <;> intro h3
      · walk_at "ovs"
        exact leave_next (congrArg List.length k1.lists) (q _ _ (Z.all_iff.mp (hZ.sRed false)) (plug_keys.trans ((by simp [keysAt, T.keys, D.key, blk_keys] : keysAt k' (blk (.node l d r)) = keysAt k' (.node l d r)).trans hk)) (hA'.done_red h2) (k1.trans ⟨rfl, rfl, rfl, rfl, rfl⟩))
      · cases h3
  · have e := hZ.isRoot.mp h1
    subst e
    rcases t' with _ | ⟨l, d, r⟩
    · walk_at "ovs"
      apply if_ndec <;> intro h3
      · exact absurd rfl h3
      walk_at "ovs"
      exact leave_next (congrArg List.length k1.lists) (q _ _ hZ (by rw [← hk, keysAt_nil]) hA'.done_root k1)
    · walk_at "ovs"
      apply if_ndec <;> intro h3
      · walk_at "ovs"
        exact leave_next (congrArg List.length k1.lists) (q _ _ hZ.setRoot (by rw [← hk, keysAt_nil, blk_keys]) hA'.done_root (k1.trans ⟨rfl, rfl, rfl, rfl, rfl⟩))
      · cases h3
theorem fn_colDrop (wk : W.Ok) (D : Defd W "colour_dropped" 17) (H1 : Fn W 3 "lightened" lightS) (H2 : Fn W 0 "is_red" isRedS) : Fn W 4 "colour_dropped" colDropS :=
  Fn.mk D fun f hf => FnOK.of_body (ns := ["tree", "node", "parent"]) hf (fun _ _ _ _ _ => args3 fun _ _ _ => rfl) (by decide) (by decide) (by rintro xs st Q ⟨t, k, n, rfl, -⟩; rfl)
    (by rintro c st xs Q ok hc ⟨t, k, n, rfl, h1, h2, h3, h4⟩; exact colDrop_body wk ok hc H1 H2 h1 h2 h3 h4) (by decide) rfl rfl rfl
end
end
-- == P5
section
set_option linter.unusedVariables false

noncomputable def SK (ks : List Kt) : Prop := ks.Pairwise fun a b => a.2.1 ≤ b.2.1
structure PutI (k : C) (t : T) (n : Nat) (bx ex : Int) : Prop where
  bc : BC k t.red n
  bh : BH t n
  lm : Lm t
  lc : LmC k (some (mm ex t.mo))
  lo : ∀ a ∈ lefts k, a.2.1 ≤ bx
  hi : ∀ a ∈ rights k, bx ≤ a.2.1
  so : SK (keysAt k t)
theorem mm_max (e ex : Int) (a b : Option Int) : max (gr e a b) ex = gr e (some (mm ex a)) b := by
  refine le_ext fun z => ?_
  rw [Int.max_le, gr_le, gr_le, ole_some, mm_le]
  exact ⟨fun ⟨⟨⟨h1, h2⟩, h3⟩, h4⟩ => ⟨⟨h1, h4, h2⟩, h3⟩, fun ⟨⟨h1, h4, h2⟩, h3⟩ => ⟨⟨⟨h1, h2⟩, h3⟩, h4⟩⟩
theorem PutI.step {k : C} {a b : T} {d : D} {n : Nat} {bx ex : Int} {il : Bool} (h : PutI k (bn il a d b) n bx ex) (hil : decide (bx ≤ d.b) = il) : ∃ n', PutI (fr il { d with m := max d.m ex } b :: k) a n' bx ex := by
  obtain ⟨l1, l2, l3⟩ := Lm_bn.mp h.lm
  have hm : max d.m ex = gr d.e (some (mm ex a.mo)) b.mo := by rw [l1, mm_max]
  have lc : LmC (fr il { d with m := max d.m ex } b :: k) (some (mm ex a.mo)) := by
    refine LmC_fr.mpr ⟨hm, l3, ?_⟩
    have := h.lc
    rw [bn_mo] at this
    have e : mm ex (some d.m) = max d.m ex := by simp only [mm]; omega
    rw [e] at this; exact this
  have so : SK (keysAt (fr il { d with m := max d.m ex } b :: k) a) := by
    have := h.so
    rw [keysAt_put, fr_put]
    have e : keysAt k (bn il a { d with m := max d.m ex } b) = keysAt k (bn il a d b) := by cases il <;> simp [keysAt, bn, T.keys, D.key]
    rw [e]; exact this
  have lh : (∀ x ∈ lefts (fr il { d with m := max d.m ex } b :: k), x.2.1 ≤ bx) ∧ (∀ x ∈ rights (fr il { d with m := max d.m ex } b :: k), bx ≤ x.2.1) := by
    cases il
    · have hd : d.b < bx := by simpa using hil
      refine ⟨fun x hx => ?_, h.hi⟩
      have so := h.so
      simp only [keysAt, bn, T.keys, SK] at so
      simp only [fr, lefts, List.mem_append, List.mem_singleton] at hx
      rcases hx with hx | hx | rfl
      · exact h.lo x hx
      · have : x.2.1 ≤ d.key.2.1 := by
          rw [List.pairwise_append, List.pairwise_append, List.pairwise_append] at so
          exact so.1.2.1.2.2 x hx _ (.head _)
        exact Int.le_trans this (Int.le_of_lt hd)
      · exact Int.le_of_lt hd
    · have hd : bx ≤ d.b := by simpa using hil
      refine ⟨h.lo, fun x hx => ?_⟩
      have so := h.so
      simp only [keysAt, bn, T.keys, SK] at so
      simp only [fr, rights, List.mem_append, List.mem_cons] at hx
      rcases hx with (rfl | hx) | hx
      · exact hd
      · have : d.key.2.1 ≤ x.2.1 := by
          rw [List.pairwise_append, List.pairwise_append, List.pairwise_append, List.pairwise_cons] at so
          exact so.1.2.1.2.1.1 x hx
        exact Int.le_trans hd this
      · exact h.hi x hx
  rcases BH_bn.mp h.bh with ⟨r, ra, rb, ba, bb⟩ | ⟨r, n', rfl, ba, bb⟩
  · refine ⟨n, BC_fr.mpr ⟨bb, .inl ⟨r, ra, rb, ?_⟩⟩, ba, l2, lc, lh.1, lh.2, so⟩
    have := h.bc
    rw [bn_red, r] at this; exact this
  · refine ⟨n', BC_fr.mpr ⟨bb, .inr ⟨r, ?_⟩⟩, ba, l2, lc, lh.1, lh.2, so⟩
    have := h.bc
    rw [bn_red, r] at this; exact this
theorem PutI.leaf {k : C} {n x : Nat} {bx ex : Int} (h : PutI k .nil n bx ex) : InsA k (.node .nil ⟨x, bx, ex, ex, true⟩ .nil) 0 ∧ SK (keysAt k (.node .nil ⟨x, bx, ex, ex, true⟩ .nil)) := by
  have hn : n = 0 := h.bh
  subst hn
  refine ⟨⟨.inl ⟨rfl, rfl, rfl, rfl, rfl⟩, rfl, h.bc, ⟨rfl, trivial, trivial⟩, h.lc⟩, ?_⟩
  have so := h.so
  simp only [keysAt, T.keys, SK, List.append_nil, D.key, List.nil_append] at so ⊢
  rw [List.pairwise_append] at so
  rw [List.append_assoc, List.pairwise_append, List.singleton_append, List.pairwise_cons]
  refine ⟨so.1, ⟨h.hi, so.2.1⟩, fun a ha b hb => ?_⟩
  rcases List.mem_cons.mp hb with rfl | hb
  · exact h.lo a ha
  · exact so.2.2 a ha b hb
theorem PutI.start {t : T} {bx ex : Int} (h : Good t) (so : SK t.keys) : ∃ n, PutI [] t n bx ex := by
  obtain ⟨n, hn⟩ := h.bh
  exact ⟨n, h.red, hn, h.lm, trivial, fun _ h => (by cases h), fun _ h => (by cases h), by rw [keysAt_nil]; exact so⟩
noncomputable def T.size : T → Nat
  | .nil => 0
  | .node l _ r => l.size + r.size + 1
theorem bn_size {s : Bool} {a b : T} {d : D} : (bn s a d b).size = a.size + b.size + 1 := by cases s <;> simp [bn, T.size] <;> omega

noncomputable def sNear (st : St) (s : Bool) (i : Nat) (o : Option Nat) : St := if s = true then st.sLf i o else st.sRt i o
/-- a new node hung at an empty hole -/
theorem Z.attach {st : St} {s : Bool} {d : D} {o : T} {k : C} {x : Nat} (h : Z st (fr s d o :: k) .nil) (hx : x ∉ (keysAt (fr s d o :: k) .nil).map (·.1)) (hn : x < st.nn) (hnum : st.num x = x) (hl : st.lf x = none) (hr : st.rt x = none) :
    Z ((sNear (st.sPa x (some d.i)) s d.i (some x)).sRed x true) (fr s d o :: k) (.node .nil ⟨x, st.bg x, st.en x, st.lim x, true⟩ .nil) := by
  have dj := dj_iff.mp h.nd
  have hxc : x ∉ cids (fr s d o :: k) := by
    intro e; apply hx
    simp only [keysAt, T.keys, List.append_nil]; exact e
  have hdx : d.i ≠ x := fun e => hxc (by cases s <;> simp only [fr] <;> first | exact mem_cids_L.mpr (.inl e.symm) | exact mem_cids_R.mpr (.inl e.symm))
  have ag : ∀ j, j ≠ x → j ≠ d.i → Ag st ((sNear (st.sPa x (some d.i)) s d.i (some x)).sRed x true) j := fun j h1 h2 => by
    cases s
    · exact ((ag_sPa h1).trans (ag_sRt h2)).trans (ag_sRed h1)
    · exact ((ag_sPa h1).trans (ag_sLf h2)).trans (ag_sRed h1)
  have hxd : ((sNear (st.sPa x (some d.i)) s d.i (some x)).sRed x true).lf x = none ∧ ((sNear (st.sPa x (some d.i)) s d.i (some x)).sRed x true).rt x = none := by
    cases s
    · exact ⟨hl, (if_neg (Ne.symm hdx)).trans hr⟩
    · exact ⟨(if_neg (Ne.symm hdx)).trans hl, hr⟩
  refine ⟨?_, ⟨?_, trivial, trivial⟩, ?_⟩
  · cases s
    · obtain ⟨a, b, e⟩ := h.rc
      obtain ⟨n1, n2, n3, n4, n5⟩ := nd_R dj.hc
      refine ⟨⟨a.bg, a.en, a.lim, (if_neg hdx).trans a.red, a.lf, if_pos rfl, (if_neg hdx).trans a.pa, a.num, a.nn⟩, ?_, ?_⟩
      · exact Rep.congr (st := st) (by rfl) (fun j hj => ag j (fun z => hxc (mem_cids_R.mpr (.inr (.inl (z ▸ hj))))) (fun z => n3 (z ▸ hj))) b
      · exact RepC.congr (st := st) (by rfl) (by rfl) (fun j hj => ag j (fun z => hxc (mem_cids_R.mpr (.inr (.inr (z ▸ hj))))) (fun z => n4 (z ▸ hj))) e
    · obtain ⟨a, b, e⟩ := h.rc
      obtain ⟨n1, n2, n3, n4, n5⟩ := nd_L dj.hc
      refine ⟨⟨a.bg, a.en, a.lim, (if_neg hdx).trans a.red, if_pos rfl, a.rt, (if_neg hdx).trans a.pa, a.num, a.nn⟩, ?_, ?_⟩
      · exact Rep.congr (st := st) (by rfl) (fun j hj => ag j (fun z => hxc (mem_cids_L.mpr (.inr (.inl (z ▸ hj))))) (fun z => n3 (z ▸ hj))) b
      · exact RepC.congr (st := st) (by rfl) (by rfl) (fun j hj => ag j (fun z => hxc (mem_cids_L.mpr (.inr (.inr (z ▸ hj))))) (fun z => n4 (z ▸ hj))) e
  · cases s
    · exact ⟨rfl, rfl, rfl, if_pos rfl, hxd.1, hxd.2, if_pos rfl, hnum, hn⟩
    · exact ⟨rfl, rfl, rfl, if_pos rfl, hxd.1, hxd.2, if_pos rfl, hnum, hn⟩
  · refine dj_iff.mpr ⟨dj.hc, ?_, fun j hj => ?_⟩
    · simp [T.ids, T.keys]
    · have : j = x := by simpa [T.ids, T.keys, D.key] using hj
      rw [this]; exact hxc
theorem Z.mono {st st' : St} {k : C} {t : T} (h : Z st k t) (n : st'.nn = st.nn) (r : st'.root = st.root) (x : Nat) (hx : x ∉ (keysAt k t).map (·.1)) (a : ∀ j, j ≠ x → Ag st st' j) : Z st' k t := by
  refine h.congr n r fun j hj => a j fun e => hx ?_
  subst e
  simp only [keysAt, List.map_append, List.mem_append, cids, T.ids] at hj ⊢
  rcases hj with (hj | hj) | hj
  · exact .inl (.inl hj)
  · exact .inr hj
  · exact .inl (.inr hj)
end
-- == M24
section
open PySem PySem.W PySem.Calls PyProof.Rows
set_option linter.unusedVariables false
set_option linter.unusedSimpArgs false
set_option maxRecDepth 100000
set_option maxHeartbeats 4000000
section
variable {W : Wc} {c : Fc} {ρ : Env0} {st : St}

/-- what a deed of the tree keeps; the count may change -/
structure Kc (st st' : St) : Prop where
  off : ∀ i, st'.off i = 0
  nn : st'.nn = st.nn
  lists : st'.lists = st.lists
  places : st'.places = st.places
inductive putS (xs : List V) (st : St) (Q : V → St → Prop) : Prop
  | mk : ∀ x t, (xs = [.tree, .node x]) → (Z st [] t) → ((∀ i, st.off i = 0)) → (Good t) → (SK t.keys) → (x < st.nn) → (x ∉ t.ids) → (st.num x = x) → (∀ st' w A B, Z st' [] w → Good w → t.keys = A ++ B → w.keys = A ++ (x, st.bg x, st.en x) :: B → SK w.keys → st'.cnt = st.cnt + 1 → Kc st st' → Q .none st') → putS xs st Q
inductive PutW (x : Nat) (bx ex : Int) (ks : List Kt) (s0 : St) (m : Nat) (ρ : Env0) (s1 : St) : Prop
  | mk : ∀ t' k' n' il, ρ = ([("tree", .tree), ("node", .node x), ("here", ov t'.top), ("parent", ov (ctop k')), ("is_left", .bool il)] : Env0) → m = t'.size → Z s1 k' t' → PutI k' t' n' bx ex → keysAt k' t' = ks →
        Ag s0 s1 x → s1.off = s0.off → s1.nn = s0.nn → s1.lists = s0.lists → s1.places = s0.places → s1.cnt = s0.cnt → (k' = [] → t' ≠ .nil) → (∀ f k2, k' = f :: k2 → ∃ d o, f = fr il d o) → PutW x bx ex ks s0 m ρ s1
structure PS0 (st s0 : St) (x : Nat) : Prop where
  nn : s0.nn = st.nn
  lists : s0.lists = st.lists
  places : s0.places = st.places
  cnt : s0.cnt = st.cnt + 1
  num : s0.num = st.num
  bg : s0.bg = st.bg
  en : s0.en = st.en
  lim : s0.lim x = st.en x
  lf : s0.lf x = none
  rt : s0.rt x = none
  pa : s0.pa x = none
theorem put_body {x : Nat} {t : T} {Q : V → St → Prop} (wk : W.Ok) (ok : c.Ok W 4) (hc : c.cs = scopeOf (stmtAt 13)) (H1 : Fn W 0 "hand_down" handDownS) (H2 : Fn W 3 "colour_inserted" colInsS) (bm : nsIn W.K mainGlobals "max" = some none)
  (h : Z st [] t) (z : ∀ i, st.off i = 0) (g : Good t) (so : SK t.keys) (hn : x < st.nn) (hx : x ∉ t.ids) (hnum : st.num x = x)
  (q : ∀ st' w A B, Z st' [] w → Good w → t.keys = A ++ B → w.keys = A ++ (x, st.bg x, st.en x) :: B → SK w.keys → st'.cnt = st.cnt + 1 → Kc st st' → Q .none st') :
  TriS W c (bodyOf (stmtAt 13)) [("tree", .tree), ("node", .node x)] st (LeaveQ st.lists.length Q) := by
  obtain ⟨s0, hs0⟩ : ∃ s0, s0 = (((((st.sCnt (st.cnt + 1)).sLf x none).sRt x none).sPa x none).sOff x 0).sLim x ((((((st.sCnt (st.cnt + 1)).sLf x none).sRt x none).sPa x none).sOff x 0).en x) := ⟨_, rfl⟩
  have ag0 : ∀ j, j ≠ x → Ag st s0 j := fun j hj => by subst hs0; exact ⟨rfl, rfl, if_neg hj, rfl, if_neg hj, if_neg hj, if_neg hj, rfl⟩
  have h0 : Z s0 [] t := h.mono (by subst hs0; rfl) (by subst hs0; rfl) x (by rw [keysAt_nil]; exact hx) ag0
  have z0 : ∀ i, s0.off i = 0 := fun i => by
    subst hs0
    show upd st.off x 0 i = 0
    unfold upd; split
    · rfl
    · exact z i
  have f0 : PS0 st s0 x := by
    subst hs0; exact ⟨rfl, rfl, rfl, rfl, rfl, rfl, rfl, upd_self .., upd_self .., upd_self .., upd_self ..⟩
  obtain ⟨e1, e2, e3, e4, e5, e6, e7, e8, e9, e10, e11⟩ := f0
  have hc0 : Kc st s0 := ⟨z0, e1, e2, e3⟩
  refine TriS_cons ?_
  walk_at "ovs"
  rw [← hs0]
  have hroot : s0.root = t.top := h0.rc
  rw [hroot]
  apply if_dec <;> intro hr
  · rcases t with _ | ⟨l, d, r⟩
    · walk_at "ovs"
      refine leave_ret rfl (congrArg List.length e2) (q _ (.node .nil ⟨x, s0.bg x, s0.en x, s0.lim x, false⟩ .nil) [] [] ⟨rfl, ⟨⟨rfl, rfl, rfl, upd_self .., e9, e10, e11, ?_, ?_⟩, trivial, trivial⟩, ?_⟩ ⟨⟨?_, trivial, trivial⟩, ⟨1, .inr ⟨rfl, 0, rfl, rfl, rfl⟩⟩, rfl⟩ rfl ?_ ?_ e4 ⟨z0, e1, e2, e3⟩)
      · show s0.num x = x
        rw [e5]; exact hnum
      · show x < s0.nn
        rw [e1]; exact hn
      · simp [keysAt, T.keys, lefts, rights]
      · show s0.lim x = s0.en x
        rw [e8, e7]
      · show [(x, s0.bg x, s0.en x)] = _
        rw [e6, e7]; rfl
      · simp [SK, T.keys]
    · cases hr
  · have tn : t ≠ .nil := fun e => hr (by rw [e]; rfl)
    walk_at "ovs"
    obtain ⟨n0, hP⟩ := PutI.start (bx := st.bg x) (ex := st.en x) g so
    refine TriX_while (PutW x (st.bg x) (st.en x) t.keys s0)
      ⟨_, _, Sub.refl, t, [], n0, false, by rw [hroot]; rfl, rfl, h0, hP, keysAt_nil t, Ag.refl _ _, rfl, rfl, rfl, rfl, rfl, fun _ => tn, fun _ _ e => (by cases e)⟩ ?_
    rintro m ρ s1 ⟨t', k', n', il0, rfl, rfl, hZ, hI, hk, a1, w1, w2, w3, w4, w5, hne, hf⟩
    have hxk : x ∉ (keysAt k' t').map (·.1) := by rw [hk]; exact hx
    walk_at "ovs"
    apply if_ndec <;> intro h1
    · obtain ⟨il, hil⟩ : ∃ il, decide (st.bg x ≤ (match t' with | .nil => 0 | .node _ d _ => d.b)) = il := ⟨_, rfl⟩
      obtain ⟨i, hi⟩ : ∃ i, t'.top = some i := by
        cases t' with
        | nil => exact absurd rfl h1
        | node l d r => exact ⟨_, rfl⟩
      obtain ⟨a, d, b, rfl, rfl⟩ := exists_bn il hi
      have hil : decide (st.bg x ≤ d.b) = il := by
        cases il <;> exact hil
      obtain ⟨n2, hI2⟩ := hI.step hil
      have hdx : d.i ≠ x := fun e => by
        apply hxk
        rw [← e]
        cases il <;> simp [keysAt, bn, T.keys, D.key]
      have zd : s1.off d.i = 0 := by rw [w1]; exact z0 _
      have hZ2 := hZ.bnLim (max d.m (st.en x))
      have hZ3 := Z.fr_iff.mpr hZ2
      have ebx : s1.bg x = st.bg x := a1.bg.trans (congrFun e6 x)
      have eex : s1.en x = st.en x := a1.en.trans (congrFun e7 x)
      have hdb : s1.bg d.i = d.b := hZ.bnAt.bg
      have hdm : s1.lim d.i = d.m := hZ.bnAt.lim
      have hnr : near (s1.sLim d.i (max d.m (st.en x))) il d.i = a.top := hZ2.bnAt.nr
      rw [bn_top, ovS]
      walk_at "ovs"
      refine ⟨_, _, rfl, rfl, ?_⟩
      rw [hdm, eex]
      walk_at "ovs"
      have hdec : decide ((s1.sLim d.i (max d.m (st.en x))).bg x ≤ (s1.sLim d.i (max d.m (st.en x))).bg d.i) = il := by
        show decide (s1.bg x ≤ s1.bg d.i) = il
        rw [ebx, hdb]; exact hil
      rw [hdec]
      have fin : Next (PutW x (st.bg x) (st.en x) t.keys s0) (bn il a d b).size [("tree", .tree), ("node", .node x), ("here", ov a.top), ("parent", .node d.i), ("is_left", .bool il)] (s1.sLim d.i (max d.m (st.en x))) := by
        refine ⟨a.size, _, by rw [bn_size]; omega, Sub.refl, a, fr il { d with m := max d.m (st.en x) } b :: k', n2, il, by rw [ctop_fr]; rfl, rfl, hZ3, hI2, ?_, a1.trans (ag_sLim (Ne.symm hdx)), w1, w2, w3, w4, w5, fun e => (by cases e), fun f k2 e => (by cases e; exact ⟨_, _, rfl⟩)⟩
        rw [← hk, keysAt_fr]
        cases il <;> simp [keysAt, bn, T.keys, D.key]
      cases il
      · walk_at "ovs"
        have hnr : s1.rt d.i = a.top := hnr
        simp only [sLim_rt]
        rw [hnr]
        exact fin
      · walk_at "ovs"
        have hnr : s1.lf d.i = a.top := hnr
        simp only [sLim_lf]
        rw [hnr]
        exact fin
    · rcases t' with _ | ⟨l, d, r⟩
      rotate_left
      · cases h1
      rcases k' with _ | ⟨f, k2⟩
      · exact absurd rfl (hne rfl)
      obtain ⟨d, o, rfl⟩ := hf _ _ rfl
      obtain ⟨g1, g2⟩ := hI.leaf (x := x)
      have a3 : Z ((sNear (s1.sPa x (some d.i)) il0 d.i (some x)).sRed x true) (fr il0 d o :: k2) (.node .nil ⟨x, st.bg x, st.en x, st.en x, true⟩ .nil) := by
        have := hZ.attach hxk (by rw [w2, e1]; exact hn) (by rw [a1.num, e5]; exact hnum) (a1.lf.trans e9) (a1.rt.trans e10)
        rw [a1.bg, a1.en, a1.lim, e8, e6, e7] at this
        exact this
      have z3 : ∀ i, ((sNear (s1.sPa x (some d.i)) il0 d.i (some x)).sRed x true).off i = 0 := fun i => by
        cases il0 <;> exact (congrFun w1 i).trans (z0 i)
      have fin : ∀ st' w, Z st' [] w → w.keys = keysAt (fr il0 d o :: k2) (.node .nil ⟨x, st.bg x, st.en x, st.en x, true⟩ .nil) → Good w → Kp ((sNear (s1.sPa x (some d.i)) il0 d.i (some x)).sRed x true) st' → Q .none st' ∧ st'.lists = st.lists := by
        intro st' w h1 h2 h3 h4
        have f1 : ((sNear (s1.sPa x (some d.i)) il0 d.i (some x)).sRed x true).nn = s1.nn ∧ ((sNear (s1.sPa x (some d.i)) il0 d.i (some x)).sRed x true).lists = s1.lists ∧ ((sNear (s1.sPa x (some d.i)) il0 d.i (some x)).sRed x true).places = s1.places ∧ ((sNear (s1.sPa x (some d.i)) il0 d.i (some x)).sRed x true).cnt = s1.cnt := by
          cases il0 <;> exact ⟨rfl, rfl, rfl, rfl⟩
        obtain ⟨v1, v2, v3, v4⟩ := f1
        have el : st'.lists = st.lists := h4.lists.trans (v2.trans (w3.trans e2))
        refine ⟨q st' w (lefts (fr il0 d o :: k2)) (rights (fr il0 d o :: k2)) h1 h3 ?_ ?_ ?_ (h4.cnt.trans (v4.trans (w5.trans e4))) ⟨fun i => (congrFun h4.off i).trans (z3 i), h4.nn.trans (v1.trans (w2.trans e1)), el, h4.places.trans (v3.trans (w4.trans e3))⟩, el⟩
        · rw [← hk]; simp [keysAt, T.keys]
        · rw [h2]; simp [keysAt, T.keys, D.key]
        · rw [h2]; exact g2
      cases il0
      · walk_at "ovs"
        refine colIns_i (by walk_at "ov ptr") rfl a3 z3 g1 fun st' w h1 h2 h3 h4 => ?_
        obtain ⟨f1, f2⟩ := fin st' w h1 h2 h3 h4
        walk_at "ovs"
        exact leave_next (congrArg List.length f2) f1
      · walk_at "ovs"
        refine colIns_i (by walk_at "ov ptr") rfl a3 z3 g1 fun st' w h1 h2 h3 h4 => ?_
        obtain ⟨f1, f2⟩ := fin st' w h1 h2 h3 h4
        walk_at "ovs"
        exact leave_next (congrArg List.length f2) f1
theorem fn_put (wk : W.Ok) (D : Defd W "put_node" 13) (H1 : Fn W 0 "hand_down" handDownS) (H2 : Fn W 3 "colour_inserted" colInsS) (bm : nsIn W.K mainGlobals "max" = some none) : Fn W 4 "put_node" putS :=
  Fn.mk D fun f hf => FnOK.of_body (ns := ["tree", "node"]) hf (fun _ _ _ _ _ => args2 fun _ _ => rfl) (by decide) (by decide) (by rintro xs st Q ⟨x, t, rfl, -⟩; rfl)
    (by rintro c st xs Q ok hc ⟨x, t, rfl, h1, h2, h3, h4, h5, h6, h7, h8⟩; exact put_body wk ok hc H1 H2 bm h1 h2 h3 h4 h5 h6 h7 h8) (by decide) rfl rfl rfl
end
end
-- == P6
section
set_option linter.unusedVariables false

noncomputable def fixm : C → Option Int → C
  | [], _ => []
  | .L d r :: c, q => .L { d with m := gr d.e q r.mo } r :: fixm c (some (gr d.e q r.mo))
  | .R l d :: c, q => .R l { d with m := gr d.e l.mo q } :: fixm c (some (gr d.e l.mo q))
noncomputable def LmS : C → Prop
  | [] => True
  | .L d r :: c => Lm r ∧ LmS c
  | .R l d :: c => Lm l ∧ LmS c
theorem fixm_fr {s : Bool} {d : D} {o : T} {c : C} {q : Option Int} : fixm (fr s d o :: c) q = fr s { d with m := gr d.e q o.mo } o :: fixm c (some (gr d.e q o.mo)) := by
  cases s
  · simp only [fr, fixm]; rw [gr_comm]
  · rfl
theorem LmS_fr {s : Bool} {d : D} {o : T} {c : C} : LmS (fr s d o :: c) ↔ Lm o ∧ LmS c := by cases s <;> exact Iff.rfl
theorem fixm_Lm {c : C} : ∀ {q : Option Int}, LmS c → LmC (fixm c q) q := by
  induction c with
  | nil => exact fun _ => trivial
  | cons f c ih =>
    intro q h
    obtain ⟨s, d, o, rfl⟩ := exists_fr f
    obtain ⟨h1, h2⟩ := LmS_fr.mp h
    rw [fixm_fr]
    exact LmC_fr.mpr ⟨rfl, h1, ih h2⟩
theorem fixm_lefts {c : C} : ∀ {q : Option Int}, lefts (fixm c q) = lefts c ∧ rights (fixm c q) = rights c := by
  induction c with
  | nil => exact ⟨rfl, rfl⟩
  | cons f c ih =>
    intro q
    cases f with
    | L d r => simp only [fixm, lefts, rights, D.key]; exact ⟨ih.1, by rw [ih.2]⟩
    | R l d => simp only [fixm, lefts, rights, D.key]; exact ⟨by rw [ih.1], ih.2⟩
theorem fixm_keys {c : C} {q : Option Int} {t : T} : keysAt (fixm c q) t = keysAt c t := by unfold keysAt; rw [fixm_lefts.1, fixm_lefts.2]
theorem fixm_BC {c : C} : ∀ {q : Option Int} {b : Bool} {n : Nat}, BC (fixm c q) b n ↔ BC c b n := by
  induction c with
  | nil => exact Iff.rfl
  | cons f c ih =>
    intro q b n
    obtain ⟨s, d, o, rfl⟩ := exists_fr f
    rw [fixm_fr, BC_fr, BC_fr]
    simp only [ih]
theorem fixm_ctop {c : C} {q : Option Int} : ctop (fixm c q) = ctop c := by
  rcases c with _ | ⟨f, c⟩
  · rfl
  · cases f <;> rfl
theorem LmC_LmS {c : C} : ∀ {q : Option Int}, LmC c q → LmS c := by
  induction c with
  | nil => exact fun _ => trivial
  | cons f c ih =>
    intro q h
    obtain ⟨s, d, o, rfl⟩ := exists_fr f
    obtain ⟨h1, h2, h3⟩ := LmC_fr.mp h
    exact LmS_fr.mpr ⟨h2, ih h3⟩
theorem Lm_unplug {c : C} : ∀ {t : T}, Lm (plug c t) → Lm t ∧ LmC c t.mo := by
  induction c with
  | nil => exact fun h => ⟨h, trivial⟩
  | cons f c ih =>
    intro t h
    obtain ⟨s, d, o, rfl⟩ := exists_fr f
    obtain ⟨h1, h2⟩ := ih h
    rw [fr_put] at h1 h2
    obtain ⟨a, b, e⟩ := Lm_bn.mp h1
    rw [bn_mo] at h2
    exact ⟨b, LmC_fr.mpr ⟨a, e, h2⟩⟩
theorem BH_unplug {c : C} : ∀ {t : T} {k : Nat}, BH (plug c t) k → (plug c t).red = false → ∃ n, BH t n ∧ BC c t.red n := by
  induction c with
  | nil => exact fun h r => ⟨_, h, r⟩
  | cons f c ih =>
    intro t k h r
    obtain ⟨s, d, o, rfl⟩ := exists_fr f
    obtain ⟨n, h1, h2⟩ := ih h r
    rw [fr_put] at h1 h2
    rw [bn_red] at h2
    rcases BH_bn.mp h1 with ⟨e, a, b, x, y⟩ | ⟨e, n', rfl, x, y⟩
    · exact ⟨n, x, BC_fr.mpr ⟨y, .inl ⟨e, a, b, by rw [e] at h2; exact h2⟩⟩⟩
    · exact ⟨n', x, BC_fr.mpr ⟨y, .inr ⟨e, by rw [e] at h2; exact h2⟩⟩⟩
theorem exists_plug {x : Nat} : ∀ {t : T}, x ∈ t.ids → ∃ k l d r, t = plug k (.node l d r) ∧ d.i = x
  | .nil, h => by cases h
  | .node l d r, h => by
    rcases mem_ids_node.mp h with h | h | h
    · obtain ⟨k, a, b, c, e, f⟩ := exists_plug h
      exact ⟨k ++ [.L d r], a, b, c, by rw [plug_append, ← e]; rfl, f⟩
    · exact ⟨[], l, d, r, rfl, h.symm⟩
    · obtain ⟨k, a, b, c, e, f⟩ := exists_plug h
      exact ⟨k ++ [.R l d], a, b, c, by rw [plug_append, ← e]; rfl, f⟩
theorem BC_swap {k1 k : C} {l : T} {d d' : D} (e : d'.red = d.red) : ∀ {q : Bool} {n : Nat}, BC (k1 ++ .R l d :: k) q n → BC (k1 ++ .R l d' :: k) q n := by
  induction k1 with
  | nil =>
    intro q n h
    obtain ⟨a, h⟩ := h
    exact ⟨a, by rw [e]; exact h⟩
  | cons f k1 ih =>
    intro q n h
    obtain ⟨s, x, o, rfl⟩ := exists_fr f
    obtain ⟨a, h⟩ := (BC_fr (c := k1 ++ .R l d :: k)).mp h
    refine (BC_fr (c := k1 ++ .R l d' :: k)).mpr ⟨a, ?_⟩
    rcases h with ⟨h1, h2, h3, h4⟩ | ⟨h1, h2⟩
    · exact .inl ⟨h1, h2, h3, ih h4⟩
    · exact .inr ⟨h1, ih h2⟩
theorem LmS_swap {k1 k : C} {l : T} {d d' : D} : LmS (k1 ++ .R l d :: k) → LmS (k1 ++ .R l d' :: k) := by
  induction k1 with
  | nil => exact fun h => h
  | cons f k1 ih =>
    intro h
    obtain ⟨s, x, o, rfl⟩ := exists_fr f
    obtain ⟨a, h⟩ := (LmS_fr (c := k1 ++ .R l d :: k)).mp h
    exact (LmS_fr (c := k1 ++ .R l d' :: k)).mpr ⟨a, ih h⟩

/-- what is left when a node with one son at most is cut out -/
structure CutA (k : C) (s : T) (red : Bool) : Prop where
  bh : BH s 0
  lm : Lm s
  ls : LmS k
  rd : red = true → BC k false 0 ∧ s.red = false
  bk : red = false → BC k false 1
noncomputable def sonOf : T → T → T
  | .nil, r => r
  | .node l d r, _ => .node l d r
theorem sonOf_l {l : T} : sonOf l .nil = l := by cases l <;> rfl
theorem cut_of {k : C} {l r : T} {d : D} (h : Good (plug k (.node l d r))) (hn : l = .nil ∨ r = .nil) : CutA k (sonOf l r) d.red := by
  obtain ⟨kk, hb⟩ := h.bh
  obtain ⟨n, b1, b2⟩ := BH_unplug hb h.red
  obtain ⟨l1, l2⟩ := Lm_unplug h.lm
  obtain ⟨_, ll, lr⟩ := l1
  have ls := LmC_LmS l2
  change BC k d.red n at b2
  rcases b1 with ⟨e, rl, rr, bl, br⟩ | ⟨e, m, rfl, bl, br⟩
  · have hn0 : n = 0 := by
      rcases hn with rfl | rfl
      · exact bl
      · exact br
    subst hn0
    rw [e] at b2
    have b2 : BC k true 0 := b2
    rcases hn with rfl | rfl
    · exact ⟨br, lr, ls, fun _ => ⟨BC_weak b2, rr⟩, fun z => by cases e.symm.trans z⟩
    · rw [sonOf_l]; exact ⟨bl, ll, ls, fun _ => ⟨BC_weak b2, rl⟩, fun z => by cases e.symm.trans z⟩
  · have hm0 : m = 0 := by
      rcases hn with rfl | rfl
      · exact bl
      · exact br
    subst hm0
    rw [e] at b2
    have b2 : BC k false (0 + 1) := b2
    rcases hn with rfl | rfl
    · exact ⟨br, lr, ls, fun z => (by cases e.symm.trans z), fun _ => b2⟩
    · rw [sonOf_l]; exact ⟨bl, ll, ls, fun z => (by cases e.symm.trans z), fun _ => b2⟩
theorem CutA.swap {k1 k : C} {l : T} {d d' : D} {s : T} {red : Bool} (h : CutA (k1 ++ .R l d :: k) s red) (e : d'.red = d.red) : CutA (k1 ++ .R l d' :: k) s red :=
  ⟨h.bh, h.lm, LmS_swap h.ls, fun z => ⟨BC_swap e (h.rd z).1, (h.rd z).2⟩, fun z => BC_swap e (h.bk z)⟩
theorem CutA.red {k : C} {s : T} (h : CutA k s true) : Good (plug (fixm k s.mo) s) := by
  obtain ⟨b, r⟩ := h.rd rfl
  obtain ⟨g1, g2⟩ := BH_plug (c := fixm k s.mo) h.bh (by rw [r]; exact fixm_BC.mpr b)
  exact ⟨Lm_plug h.lm (fixm_Lm h.ls), g1, g2⟩
theorem CutA.black {k : C} {s : T} (h : CutA k s false) : DelA (fixm k s.mo) s 0 := ⟨h.bh, fixm_BC.mpr (h.bk rfl), h.lm, fixm_Lm h.ls⟩

/-- the place of a node taken by a node from outside -/
noncomputable def TP (st : St) (i g : Nat) : St :=
  let s1 := hangS st (st.pa i) i (some g)
  let s2 := ((s1.sLf g (s1.lf i)).sRt g ((s1.sLf g (s1.lf i)).rt i)).sRed g (((s1.sLf g (s1.lf i)).sRt g ((s1.sLf g (s1.lf i)).rt i)).red i)
  let s3 := hangB (hangB s2 (some g) (s2.lf g)) (some g) (s2.rt g)
  s3.sLim g (gre s3 g)
theorem TP_Z {st : St} {k : C} {l r : T} {d : D} {g : Nat} (h : Z st k (.node l d r)) (z : ∀ i, st.off i = 0) (hg : g ∉ (keysAt k (.node l d r)).map (·.1)) (hn : g < st.nn) (hnum : st.num g = g) :
    Z (TP st d.i g) k (.node l ⟨g, st.bg g, st.en g, gr (st.en g) l.mo r.mo, d.red⟩ r) ∧ Kp st (TP st d.i g) := by
  have dj := dj_iff.mp h.nd
  obtain ⟨n1, n2, n3, n4, n5⟩ := nd_node dj.ht
  have nx : d.i ∉ cids k := dj.d _ (mem_ids_node.mpr (.inr (.inl rfl)))
  have hg' : g ∉ cids k ∧ g ∉ l.ids ∧ g ≠ d.i ∧ g ∉ r.ids := by
    refine ⟨fun e => hg ?_, fun e => hg ?_, fun e => hg ?_, fun e => hg ?_⟩ <;> simp only [keysAt, T.keys, List.map_append, List.mem_append, List.map_cons, List.mem_cons, cids, T.ids, D.key] at e ⊢ <;> grind
  obtain ⟨gc, gl, gd, gr'⟩ := hg'
  have nl : ∀ j ∈ l.ids, j ∉ cids k ∧ j ∉ r.ids ∧ j ≠ g := fun j hj => ⟨dj.d _ (mem_ids_node.mpr (.inl hj)), n5 j hj, fun e => gl (e ▸ hj)⟩
  have nr : ∀ j ∈ r.ids, j ∉ cids k ∧ j ∉ l.ids ∧ j ≠ g := fun j hj => ⟨dj.d _ (mem_ids_node.mpr (.inr (.inr hj))), fun e => n5 j e hj, fun e => gr' (e ▸ hj)⟩
  obtain ⟨hc, ⟨ad, rl, rr⟩, -⟩ := id h
  have hc : RepC st k (some d.i) := hc
  unfold TP
  rw [ad.pa]
  unfold hangS
  obtain ⟨hc1, g1, k1⟩ := hangA_RepC (o := some g) hc dj.hc nx
  generalize hangA st (ctop k) d.i (some g) = s1 at hc1 g1 k1
  dsimp only
  have ad1 := ad.ag (g1 _ nx) k1.nn
  have e1 : (hangB s1 (ctop k) (some g)).lf d.i = l.top := ad1.lf
  rw [e1]
  have e2 : ((hangB s1 (ctop k) (some g)).sLf g l.top).rt d.i = r.top := ad1.rt
  rw [e2]
  have e3 : (((hangB s1 (ctop k) (some g)).sLf g l.top).sRt g r.top).red d.i = d.red := ad1.red
  rw [e3]
  generalize hs2 : (((hangB s1 (ctop k) (some g)).sLf g l.top).sRt g r.top).sRed g d.red = s2
  have g2 : ∀ j, j ≠ g → Ag s1 s2 j := fun j hj => hs2 ▸ ⟨rfl, rfl, rfl, if_neg hj, if_neg hj, if_neg hj, if_neg hj, rfl⟩
  have k2 : Kp s1 s2 := hs2 ▸ ⟨rfl, rfl, rfl, rfl, rfl⟩
  have r2 : s2.root = s1.root := hs2 ▸ rfl
  have a2 : At s2 ⟨g, st.bg g, st.en g, st.lim g, d.red⟩ l.top r.top (ctop k) := by
    have ag := g1 g gc
    subst hs2
    exact ⟨ag.bg, ag.en, ag.lim, upd_self .., upd_self .., upd_self .., upd_self .., ag.num.trans hnum, k1.nn ▸ hn⟩
  have el : s2.lf g = l.top := a2.lf
  have er : s2.rt g = r.top := a2.rt
  rw [el, er]
  have gg : ∀ j, j ∉ cids k → j ≠ g → Ag st s2 j := fun j h1 h2 => (g1 j h1).trans (g2 j h2)
  have rl2 : Rep s2 (some d.i) l := rl.congr (k2.nn.trans k1.nn) fun j hj => gg j (nl j hj).1 (nl j hj).2.2
  have rr2 : Rep s2 (some d.i) r := rr.congr (k2.nn.trans k1.nn) fun j hj => gg j (nr j hj).1 (nr j hj).2.2
  have rc2 : RepC s2 k (some g) := hc1.congr k2.nn r2 fun j hj => g2 j fun e => gc (e ▸ hj)
  obtain ⟨rl3, g3, k3, r3⟩ := hangB_Rep (p' := some g) rl2 n1
  generalize hangB s2 (some g) l.top = s3 at rl3 g3 k3 r3
  have rr3 : Rep s3 (some d.i) r := rr2.congr k3.nn fun j hj => g3 j (nr j hj).2.1
  obtain ⟨rr4, g4, k4, r4⟩ := hangB_Rep (p' := some g) rr3 n2
  generalize hangB s3 (some g) r.top = s4 at rr4 g4 k4 r4
  have z4 : Z s4 k (.node l ⟨g, st.bg g, st.en g, st.lim g, d.red⟩ r) := by
    refine ⟨?_, ⟨?_, ?_, rr4⟩, ?_⟩
    · exact rc2.congr (k4.nn.trans k3.nn) (r4.trans r3) fun j hj => (g3 j fun e => (nl j e).1 hj).trans (g4 j fun e => (nr j e).1 hj)
    · exact (a2.ag ((g3 g gl).trans (g4 g gr')) (k4.nn.trans k3.nn))
    · exact rl3.congr k4.nn fun j hj => g4 j fun e => (nl j hj).2.1 e
    · refine dj_iff.mpr ⟨dj.hc, ?_, fun j hj => ?_⟩
      · simp only [T.ids, T.keys, D.key, List.map_append, List.map_cons, List.nodup_append, List.nodup_cons, List.mem_cons] at *
        grind
      · rcases mem_ids_node.mp hj with hj | hj | hj
        · exact (nl j hj).1
        · have : j = g := hj
          rw [this]; exact gc
        · exact (nr j hj).1
  have k5 : Kp st s4 := ((k1.trans k2).trans k3).trans k4
  have hgre : gre s4 g = gr (st.en g) l.mo r.mo := gre_at (d := ⟨g, st.bg g, st.en g, st.lim g, d.red⟩) z4.rt fun i => (congrFun k5.off i).trans (z i)
  rw [hgre]
  exact ⟨z4.sLim _, k5.trans ⟨rfl, rfl, rfl, rfl, rfl⟩⟩
end
-- == M25
section
open PySem PySem.W PySem.Calls PyProof.Rows
set_option linter.unusedVariables false
set_option linter.unusedSimpArgs false
set_option maxRecDepth 100000
set_option maxHeartbeats 4000000
section
variable {W : Wc} {c : Fc} {ρ : Env0} {st : St}

noncomputable def St.wl (st : St) (x : List (List V)) : St := { st with lists := x }
theorem addL_wl {xs : List V} : st.addL xs = st.wl (st.lists ++ [xs]) := rfl
theorem wl_set {L : List (List V)} {xs ys : List V} : (st.wl (L ++ [xs])).setL L.length ys = st.wl (L ++ [ys]) := by
  unfold St.setL St.wl; simp
theorem wl_get {L : List (List V)} {xs : List V} : (st.wl (L ++ [xs])).lists[L.length]? = some xs := by simp [St.wl]
theorem leave_wl {ys : List (List V)} : leaveSt st.lists.length (st.wl (st.lists ++ ys)) = st := by
  unfold leaveSt St.wl; simp
theorem Z.wl {x : List (List V)} {k : C} {t : T} (h : Z st k t) : Z (st.wl x) k t := h.congr rfl rfl fun j _ => ⟨rfl, rfl, rfl, rfl, rfl, rfl, rfl, rfl⟩

theorem nodup_len : ∀ {n : Nat} {l : List Nat}, l.Nodup → (∀ j ∈ l, j < n) → l.length ≤ n
  | 0, l, _, h => by
    cases l with
    | nil => exact Nat.le_refl _
    | cons a r => exact absurd (h a (.head _)) (by omega)
  | n + 1, l, hd, h => by
    by_cases hn : n ∈ l
    · have e : (l.erase n).length = l.length - 1 := List.length_erase_of_mem hn
      have := nodup_len (n := n) (l := l.erase n) (hd.erase n) fun j hj => by
        have h1 := h j (List.mem_of_mem_erase hj)
        have h2 : j ≠ n := fun e => by
          subst e
          exact (List.Nodup.mem_erase_iff hd).mp hj |>.1 rfl
        omega
      omega
    · have := nodup_len (n := n) (l := l) hd fun j hj => by
        have h1 := h j hj
        have h2 : j ≠ n := fun e => hn (e ▸ hj)
        omega
      omega
theorem Rep.lt {t : T} : ∀ {p : Option Nat}, Rep st p t → ∀ j ∈ t.ids, j < st.nn := by
  induction t with
  | nil => intro _ _ j hj; cases hj
  | node l d r ih1 ih2 =>
    intro p h j hj
    rcases mem_ids_node.mp hj with hj | hj | hj
    · exact ih1 h.2.1 j hj
    · exact hj ▸ h.1.nn
    · exact ih2 h.2.2 j hj
theorem Z.len {k : C} {t : T} (h : Z st k t) : (keysAt k t).length ≤ st.nn := by
  have h2 := Z.all_iff.mp h
  have := nodup_len (n := st.nn) (l := (plug k t).ids) (dj_iff.mp h2.nd).ht h2.rt.lt
  rw [← plug_keys]
  simpa [T.ids] using this
theorem C_len {k : C} {t : T} : k.length ≤ (keysAt k t).length := by
  induction k generalizing t with
  | nil => exact Nat.zero_le _
  | cons f k ih =>
    rw [keysAt_put]
    have h1 := ih (t := .nil)
    have h2 : (keysAt k .nil).length + 1 ≤ (keysAt k (f.put t)).length := by
      cases f <;> simp [keysAt, F.put, T.keys] <;> omega
    simp only [List.length_cons]; omega
theorem RepC.paAt {k1 k2 : C} : ∀ {q : Option Nat} {f : F}, RepC st (k1 ++ f :: k2) q → st.pa f.i = ctop k2 := by
  induction k1 with
  | nil =>
    intro q f h
    cases f with
    | L d r => exact h.1.pa
    | R l d => exact h.1.pa
  | cons g k1 ih =>
    intro q f h
    cases g with
    | L d r => exact ih h.2.2
    | R l d => exact ih h.2.2

inductive downToS (xs : List V) (st : St) (Q : V → St → Prop) : Prop
  | mk : ∀ i k t, (xs = [.node i]) → (Z st k t) → (t.top = some i) → ((∀ i, st.off i = 0)) → (st.nn ≤ 900) → (Q .none st) → downToS xs st Q
inductive DTW (st : St) (kk : C) (m : Nat) (ρ : Env0) (s1 : St) : Prop
  | mk : ∀ (xs : List Nat) (k1 k2 : C), ρ = ([("node", ov (ctop k2)), ("path", .list st.lists.length)] : Env0) → s1 = st.wl (st.lists ++ [xs.map V.node]) → kk = k1 ++ k2 → xs.length = k1.length → m = k2.length → DTW st kk m ρ s1
theorem downTo_body {i : Nat} {k : C} {t : T} {Q : V → St → Prop} (wk : W.Ok) (ok : c.Ok W 1) (hc : c.cs = scopeOf (stmtAt 4)) (H1 : Fn W 0 "hand_down" handDownS)
  (h : Z st k t) (ht : t.top = some i) (z : ∀ i, st.off i = 0) (hn : st.nn ≤ 900) (hq : Q .none st) :
  TriS W c (bodyOf (stmtAt 4)) [("node", .node i)] st (LeaveQ st.lists.length Q) := by
  rcases t with _ | ⟨l, d, r⟩
  · cases ht
  cases ht
  have hk : Z st (.L d r :: k) l := Z.put_iff.mpr h
  have hlen : (F.L d r :: k).length ≤ 900 := Nat.le_trans C_len (Nat.le_trans hk.len hn)
  generalize hkk : (F.L d r :: k) = kk at hk hlen
  refine TriS_cons ?_
  walk_at "ovs"
  refine TriE_list (TriEs_nil ⟨⟨by decide, rfl⟩, ?_⟩)
  rw [addL_wl]
  refine TriS_cons ?_
  refine TriX_while (DTW st kk)
    ⟨_, _, Sub.refl, [], [], kk, by rw [← hkk]; rfl, rfl, rfl, rfl, rfl⟩ ?_
  rintro m ρ s1 ⟨xs, k1, k2, rfl, rfl, e1, e2, rfl⟩
  walk_at "ovs"
  apply if_ndec <;> intro h1
  · rcases k2 with _ | ⟨f, k2⟩
    · exact absurd rfl h1
    have hpa : (st.wl (st.lists ++ [(xs ++ [f.i]).map V.node])).pa f.i = ctop k2 := by rw [e1] at hk; exact hk.rc.paAt
    have hxl : xs.length ≤ 900 := by rw [e2]; rw [e1] at hlen; simp at hlen; omega
    walk_at "ovs"
    refine TriE_append (by rfl) (by rfl) ?_
    walk_at "ovs"
    refine ⟨_, _, rfl, wl_get, ?_⟩
    walk_at "ovs"
    refine ⟨_, _, rfl, wl_get, rfl, by simp; omega, ?_⟩
    rw [wl_set, show xs.map V.node ++ [ov (ctop (f :: k2))] = (xs ++ [f.i]).map V.node by simp [ctop, ov]]
    walk_at "ovs"
    rw [hpa]
    exact ⟨k2.length, _, by simp, Sub.refl, xs ++ [f.i], k1 ++ [f], k2, rfl, rfl, by simp [e1], by simp [e2], rfl⟩
  · walk_at "ovs"
    have hxl : xs.length ≤ 900 := by rw [e2]; rw [e1] at hlen; simp at hlen; omega
    refine TriX_for ok (by walk_at "ov side") (by intro v; rfl) (TriE_rev rfl (fun o i => ⟨_, rfl⟩) (fun _ _ => rfl) ?_)
    walk_at "ovs"
    refine ⟨_, wl_get, by simp; omega, _, .inl rfl, ?_⟩
    rw [← List.map_reverse]
    generalize xs.reverse = ys
    suffices hs : ∀ ρ' : Env0, (ρ' = ([("node", ov (ctop k2)), ("path", .list st.lists.length)] : Env0) ∨ ∃ v, ρ' = ([("node", ov (ctop k2)), ("path", .list st.lists.length), ("here", v)] : Env0)) → ForT W c "here" _ (ys.map V.node) ρ' (st.wl (st.lists ++ [xs.map V.node])) (fun f ρ' st' => match f with
      | .next => TriS W c [] ρ' st' (LeaveQ st.lists.length Q)
      | f => LeaveQ st.lists.length Q f ρ' st') from hs _ (.inl rfl)
    induction ys with
    | nil =>
      intro ρ' _
      refine forT_nil (TriS_nil ?_)
      show Q .none (leaveSt st.lists.length _)
      rw [leave_wl]; exact hq
    | cons y ys ih =>
      intro ρ' hρ
      have zy : (st.wl (st.lists ++ [xs.map V.node])).off y = 0 := z y
      rcases hρ with rfl | ⟨v, rfl⟩
      all_goals
        refine forT_cons ?_
        walk_at "ovs"
        exact ih _ (.inr ⟨_, rfl⟩)
theorem fn_downTo (wk : W.Ok) (D : Defd W "hand_down_to" 4) (H1 : Fn W 0 "hand_down" handDownS) : Fn W 1 "hand_down_to" downToS :=
  Fn.mk D fun f hf => FnOK.of_body (ns := ["node"]) hf (fun _ _ _ _ _ => args1 fun _ => rfl) (by decide) (by decide) (by rintro xs st Q ⟨x, k, t, rfl, -⟩; rfl)
    (by rintro c st xs Q ok hc ⟨x, k, t, rfl, h1, h2, h3, h4, h5⟩; exact downTo_body wk ok hc H1 h1 h2 h3 h4 h5) (by decide) rfl rfl rfl

inductive firstS (xs : List V) (st : St) (Q : V → St → Prop) : Prop
  | mk : ∀ i k t, (xs = [.node i]) → (Z st k t) → (t.top = some i) → ((∀ i, st.off i = 0)) → (∀ k1 g s, t = plug k1 (.node .nil g s) → lefts k1 = [] → Q (.node g.i) st) → firstS xs st Q
inductive FBW (st : St) (t : T) (m : Nat) (ρ : Env0) (s1 : St) : Prop
  | mk : ∀ k1 l d r, ρ = ([("node", .node d.i)] : Env0) → s1 = st → t = plug k1 (.node l d r) → lefts k1 = [] → m = l.size → FBW st t m ρ s1
theorem first_body {i : Nat} {k : C} {t : T} {Q : V → St → Prop} (wk : W.Ok) (ok : c.Ok W 1) (hc : c.cs = scopeOf (stmtAt 14)) (H1 : Fn W 0 "hand_down" handDownS)
  (h : Z st k t) (ht : t.top = some i) (z : ∀ i, st.off i = 0) (hq : ∀ k1 g s, t = plug k1 (.node .nil g s) → lefts k1 = [] → Q (.node g.i) st) :
  TriS W c (bodyOf (stmtAt 14)) [("node", .node i)] st (LeaveQ st.lists.length Q) := by
  have zi := z i
  refine TriS_cons ?_
  walk_at "ovs"
  refine TriX_while (FBW st t)
    ⟨(match t with | .nil => 0 | .node l _ _ => l.size), _, Sub.refl, (by
      cases t with
      | nil => cases ht
      | node l d r => cases ht; exact ⟨[], l, d, r, rfl, rfl, rfl, rfl, rfl⟩)⟩ ?_
  rintro m ρ s1 ⟨k1, l, d, r, rfl, rfl, e1, e2, rfl⟩
  have hZ : Z s1 (k1 ++ k) (.node l d r) := Z.plug_iff.mpr (e1 ▸ h)
  have hl : s1.lf d.i = l.top := hZ.at.lf
  walk_at "ovs"
  rw [hl]
  apply if_ndec <;> intro h1
  · rcases l with _ | ⟨a, x, b⟩
    · exact absurd rfl h1
    have hl : s1.lf d.i = some x.i := hl
    have zx := z x.i
    walk_at "ovs"
    rw [hl, ovS]
    walk_at "ovs"
    exact ⟨a.size, _, by simp [T.size]; omega, Sub.refl, .L d r :: k1, a, x, b, rfl, rfl, e1, e2, rfl⟩
  · rcases l with _ | ⟨a, x, b⟩
    · walk_at "ovs"
      exact leave_ret rfl rfl (hq k1 d r e1 e2)
    · cases h1
theorem fn_first (wk : W.Ok) (D : Defd W "first_below" 14) (H1 : Fn W 0 "hand_down" handDownS) : Fn W 1 "first_below" firstS :=
  Fn.mk D fun f hf => FnOK.of_body (ns := ["node"]) hf (fun _ _ _ _ _ => args1 fun _ => rfl) (by decide) (by decide) (by rintro xs st Q ⟨x, k, t, rfl, -⟩; rfl)
    (by rintro c st xs Q ok hc ⟨x, k, t, rfl, h1, h2, h3, h4⟩; exact first_body wk ok hc H1 h1 h2 h3 h4) (by decide) rfl rfl rfl

inductive takeS (xs : List V) (st : St) (Q : V → St → Prop) : Prop
  | mk : ∀ i g, (xs = [.tree, .node i, .node g]) → (Q .none (TP st i g)) → takeS xs st Q
theorem take_body {i g : Nat} {Q : V → St → Prop} (wk : W.Ok) (ok : c.Ok W 1) (hc : c.cs = scopeOf (stmtAt 15)) (H1 : Fn W 0 "hang" hangF) (H2 : Fn W 0 "greatest_end" greS)
  (hq : Q .none (TP st i g)) : TriS W c (bodyOf (stmtAt 15)) [("tree", .tree), ("node", .node i), ("other", .node g)] st (LeaveQ st.lists.length Q) := by
  unfold TP at hq
  dsimp only at hq
  have hL : (hangS st (st.pa i) i (some g)).lists = st.lists := hangS_lists
  refine TriS_cons ?_
  walk_at "ovs"
  generalize hangS st (st.pa i) i (some g) = s1 at hq hL ⊢
  generalize hs2 : ((s1.sLf g (s1.lf i)).sRt g ((s1.sLf g (s1.lf i)).rt i)).sRed g (((s1.sLf g (s1.lf i)).sRt g ((s1.sLf g (s1.lf i)).rt i)).red i) = s2 at hq ⊢
  have hL2 : s2.lists = st.lists := by rw [← hs2]; exact hL
  refine TriX_for ok (by walk_at "ov side") (by intro v; rfl) ?_
  walk_at "ovs"
  refine ⟨_, .inr rfl, ?_⟩
  have e1 : ∀ o, (hangB s2 (some g) o).lists = st.lists := fun o => hangB_lists.trans hL2
  have e2 : ∀ o o', (hangB (hangB s2 (some g) o) (some g) o').lists = st.lists := fun o o' => hangB_lists.trans (e1 o)
  rcases hl : s2.lf g with _ | a <;> rcases hr : s2.rt g with _ | b <;> rw [hl, hr] at hq <;> walk_at "ovs" <;> (apply if_ndec <;> intro h1 <;> first | exact absurd rfl h1 | cases h1 | skip) <;> walk_at "ovs" <;> (apply if_ndec <;> intro h1 <;> first | exact absurd rfl h1 | cases h1 | skip) <;> walk_at "ovs" <;> first | exact leave_next (congrArg List.length hL2) hq
theorem fn_take (wk : W.Ok) (D : Defd W "take_place" 15) (H1 : Fn W 0 "hang" hangF) (H2 : Fn W 0 "greatest_end" greS) : Fn W 1 "take_place" takeS :=
  Fn.mk D fun f hf => FnOK.of_body (ns := ["tree", "node", "other"]) hf (fun _ _ _ _ _ => args3 fun _ _ _ => rfl) (by decide) (by decide) (by rintro xs st Q ⟨x, k, rfl, -⟩; rfl)
    (by rintro c st xs Q ok hc ⟨x, k, rfl, h1⟩; exact take_body wk ok hc H1 H2 h1) (by decide) rfl rfl rfl
end
end
-- == M26
section
open PySem PySem.W PySem.Calls PyProof.Rows
set_option linter.unusedVariables false
set_option linter.unusedSimpArgs false
set_option maxRecDepth 100000
set_option maxHeartbeats 4000000
section
variable {W : Wc} {c : Fc} {ρ : Env0} {st : St}

theorem colDrop_i {v1 v2 : V} {t : T} {k : C} {n : Nat} {Q : V → St → Prop} (h1 : v1 = ov t.top) (h2 : v2 = ov (ctop k)) (h : Z st k t) (z : ∀ i, st.off i = 0) (hA : DelA k t n)
    (q : ∀ st' w, Z st' [] w → w.keys = keysAt k t → Good w → Kp st st' → Q .none st') : colDropS [.tree, v1, v2] st Q := ⟨t, k, n, by rw [h1, h2], h, z, hA, q⟩

inductive DRW (st : St) (x : Nat) (k : C) (s : T) (rd : Bool) (m : Nat) (ρ : Env0) (s1 : St) : Prop
  | mk : ∀ k1 k2, ρ = ([("tree", .tree), ("node", .node x), ("son", ov s.top), ("parent", ov (ctop k)), ("was_red", .bool rd), ("here", ov (ctop k2))] : Env0) → Kp st s1 → m = k2.length → Z s1 (k1 ++ k2) s → k1 ++ fixm k2 (plug k1 s).mo = fixm k s.mo → DRW st x k s rd m ρ s1
theorem drop_rest {x N : Nat} {k : C} {s : T} {rd : Bool} {v1 : V} {Q : V → St → Prop} (wk : W.Ok) (ok : c.Ok W 5) (hc : c.cs = scopeOf (stmtAt 16)) (H1 : Fn W 0 "greatest_end" greS) (H2 : Fn W 4 "colour_dropped" colDropS)
  (h : Z st k s) (z : ∀ i, st.off i = 0) (hC : CutA k s rd) (hx : x ∉ (keysAt k s).map (·.1)) (hN : st.lists.length = N)
  (q : ∀ st' w, Z st' [] w → w.keys = keysAt k s → Good w → Kp st st' → Q .none st') :
  TriS W c ((bodyOf (stmtAt 16)).drop 9) [("tree", .tree), ("node", .node x), ("gone", v1), ("son", ov s.top), ("parent", ov (ctop k)), ("was_red", .bool rd)] st (LeaveQ N Q) := by
  refine TriS_cons ?_
  walk_at "ov"; walk_at "ov"; walk_at "ov"
  refine TriX_while (DRW st x k s rd)
    ⟨_, _, Sub.cons rfl (Sub.cons rfl (Sub.cons rfl (Sub.cons rfl (Sub.cons rfl (Sub.cons rfl Sub.nil))))), [], k, rfl, Kp.refl st, rfl, h, rfl⟩ ?_
  rintro m ρ s1 ⟨k1, k2, rfl, kp, rfl, hZ, hk⟩
  have z1 : ∀ i, s1.off i = 0 := fun i => by rw [kp.off]; exact z i
  walk_at "ovs"
  apply if_ndec <;> intro h1
  · rcases k2 with _ | ⟨f, k2⟩
    · exact absurd rfl h1
    obtain ⟨sd, d, o, rfl⟩ := exists_fr f
    have h2 := Z.fr_iff.mp (Z.plug_iff.mp hZ)
    have hg := h2.gre z1
    have h3 : Z (s1.sLim d.i (gr d.e (plug k1 s).mo o.mo)) ((k1 ++ [fr sd { d with m := gr d.e (plug k1 s).mo o.mo } o]) ++ k2) s := by
      rw [List.append_assoc]
      exact Z.plug_iff.mpr (Z.fr_iff.mpr (h2.bnLim _))
    have hpa : s1.pa d.i = ctop k2 := h2.bnAt.pa
    have hct : ctop (fr sd d o :: k2) = some d.i := ctop_fr
    rw [hct, ovS]
    walk_at "ovs"
    rw [hg]
    walk_at "ovs"
    simp only [sLim_pa]
    rw [hpa]
    refine ⟨k2.length, _, by simp, Sub.cons rfl (Sub.cons rfl (Sub.cons rfl (Sub.cons rfl (Sub.cons rfl (Sub.cons rfl Sub.nil))))), k1 ++ [fr sd { d with m := gr d.e (plug k1 s).mo o.mo } o], k2, rfl, kp.trans ⟨rfl, rfl, rfl, rfl, rfl⟩, rfl, h3, ?_⟩
    rw [← hk, fixm_fr, plug_append, List.append_assoc]
    rw [show plug [fr sd { d with m := gr d.e (plug k1 s).mo o.mo } o] (plug k1 s) = bn sd (plug k1 s) { d with m := gr d.e (plug k1 s).mo o.mo } o from fr_put .., bn_mo]
    rfl
  · rcases k2 with _ | ⟨f, k2⟩
    rotate_left
    · cases h1
    rw [List.append_nil] at hZ
    have hk : k1 = fixm k s.mo := by rw [← hk]; simp [fixm]
    subst hk
    have hx1 : x ∉ (keysAt (fixm k s.mo) s).map (·.1) := by rw [fixm_keys]; exact hx
    have done : ∀ s3 w, Z s3 [] w → w.keys = keysAt k s → Good w → Kp st s3 → Q .none (((s3.sLf x none).sRt x none).sPa x none) ∧ (((s3.sLf x none).sRt x none).sPa x none).lists = st.lists := by
      intro s3 w g1 g2 g3 g4
      refine ⟨q _ w (g1.mono (by rfl) (by rfl) x (by rw [keysAt_nil, g2]; exact hx) fun j hj => ((ag_sLf hj).trans (ag_sRt hj)).trans (ag_sPa hj)) g2 g3 (g4.trans ⟨rfl, rfl, rfl, rfl, rfl⟩), g4.lists⟩
    walk_at "ovs"
    apply if_nb <;> intro hr
    · subst hr
      walk_at "ovs"
      refine colDrop_i rfl (by rw [fixm_ctop]) hZ z1 hC.black fun s3 w g1 g2 g3 g4 => ?_
      obtain ⟨f1, f2⟩ := done s3 w g1 (g2.trans fixm_keys) g3 (kp.trans g4)
      walk_at "ovs"
      exact leave_next ((congrArg List.length f2).trans hN) f1
    · subst hr
      obtain ⟨f1, f2⟩ := done s1 _ (Z.all_iff.mp hZ) (plug_keys.trans fixm_keys) hC.red kp
      walk_at "ovs"
      exact leave_next ((congrArg List.length f2).trans hN) f1

inductive dropS (xs : List V) (st : St) (Q : V → St → Prop) : Prop
  | mk : ∀ x t, (xs = [.tree, .node x]) → (Z st [] t) → ((∀ i, st.off i = 0)) → (Good t) → (x ∈ t.ids) → (st.nn ≤ 900) → (∀ st' w A B b e, Z st' [] w → Good w → t.keys = A ++ (x, b, e) :: B → w.keys = A ++ B → st'.cnt = st.cnt - 1 → Kc st st' → Q .none st') → dropS xs st Q
theorem sonOf_top {l r : T} : (sonOf l r).top = if l.top = none then r.top else l.top := by cases l <;> simp [sonOf, T.top]
theorem Z.cut {k : C} {l r : T} {d : D} (h : Z st k (.node l d r)) (hn : l = .nil ∨ r = .nil) :
    Z (hangS st (ctop k) d.i (sonOf l r).top) k (sonOf l r) ∧ Kp st (hangS st (ctop k) d.i (sonOf l r).top) ∧ d.i ∉ (keysAt k (sonOf l r)).map (·.1) ∧
    (∃ A B, keysAt k (.node l d r) = A ++ d.key :: B ∧ keysAt k (sonOf l r) = A ++ B) ∧ Ag st (hangS st (ctop k) d.i (sonOf l r).top) d.i := by
  have dj := dj_iff.mp h.nd
  obtain ⟨n1, n2, n3, n4, n5⟩ := nd_node dj.ht
  have nx : d.i ∉ cids k := dj.d _ (mem_ids_node.mpr (.inr (.inl rfl)))
  have hs : (sonOf l r).ids.Nodup ∧ (∀ j ∈ (sonOf l r).ids, j ∉ cids k ∧ j ≠ d.i) ∧ Rep st (some d.i) (sonOf l r) ∧ (∃ A B, keysAt k (.node l d r) = A ++ d.key :: B ∧ keysAt k (sonOf l r) = A ++ B) := by
    rcases hn with rfl | rfl
    · exact ⟨n2, fun j hj => ⟨dj.d _ (mem_ids_node.mpr (.inr (.inr hj))), fun e => n4 (e ▸ hj)⟩, h.rt.2.2, lefts k, r.keys ++ rights k, by simp [keysAt, T.keys], by simp [keysAt, sonOf]⟩
    · rw [sonOf_l]
      exact ⟨n1, fun j hj => ⟨dj.d _ (mem_ids_node.mpr (.inl hj)), fun e => n3 (e ▸ hj)⟩, h.rt.2.1, lefts k ++ l.keys, rights k, by simp [keysAt, T.keys], by simp [keysAt]⟩
  obtain ⟨s1, s2, s3, A, B, s4, s5⟩ := hs
  generalize sonOf l r = s at s1 s2 s3 s5
  have hc : RepC st k (some d.i) := h.rc
  obtain ⟨c1, c2, c3⟩ := hangA_RepC (o := s.top) hc dj.hc nx
  unfold hangS
  generalize hangA st (ctop k) d.i s.top = s0 at c1 c2 c3
  obtain ⟨d1, d2, d3, d4⟩ := hangB_Rep (p' := ctop k) (s3.congr c3.nn fun j hj => c2 j (s2 j hj).1) s1
  refine ⟨⟨?_, d1, ?_⟩, c3.trans d3, ?_, ⟨A, B, s4, s5⟩, ?_⟩
  · exact c1.congr d3.nn d4 fun j hj => d2 j fun e => (s2 j e).1 hj
  · exact dj_iff.mpr ⟨dj.hc, s1, fun j hj => (s2 j hj).1⟩
  · intro e
    simp only [keysAt, List.map_append, List.mem_append] at e
    rcases e with (e | e) | e
    · exact nx (by simp only [cids, List.map_append, List.mem_append]; exact .inl e)
    · exact (s2 _ e).2 rfl
    · exact nx (by simp only [cids, List.map_append, List.mem_append]; exact .inr e)
  · exact (c2 _ nx).trans (d2 _ fun e => (s2 _ e).2 rfl)
theorem hang_o {v1 v2 v3 : V} {p o : Option Nat} {n : Nat} {Q : V → St → Prop} (h1 : v1 = ov p) (h2 : v2 = .node n) (h3 : v3 = ov o) (h : Q .none (hangS st p n o)) : hangF [.tree, v1, v2, v3] st Q := ⟨p, n, o, by rw [h1, h2, h3], h⟩
theorem drop_mid {x N : Nat} {k : C} {l r : T} {d : D} {Q : V → St → Prop} (wk : W.Ok) (ok : c.Ok W 5) (hc : c.cs = scopeOf (stmtAt 16)) (H5 : Fn W 0 "hang" hangF)
  (h0 : Z st k (.node l d r))
  (hl : TriS W c ((bodyOf (stmtAt 16)).drop 8) [("tree", .tree), ("node", .node x), ("gone", .node d.i), ("son", ov (sonOf l r).top), ("parent", ov (ctop k)), ("was_red", .bool d.red)] (hangS st (ctop k) d.i (sonOf l r).top) (LeaveQ N Q)) :
  TriS W c ((bodyOf (stmtAt 16)).drop 4) [("tree", .tree), ("node", .node x), ("gone", .node d.i)] st (LeaveQ N Q) := by
  have hlf : st.lf d.i = l.top := h0.at.lf
  have hrt : st.rt d.i = r.top := h0.at.rt
  have hpa : st.pa d.i = ctop k := h0.at.pa
  have hrd : st.red d.i = d.red := h0.at.red
  refine TriS_cons ?_
  walk_at "ovs"
  rw [hlf]
  apply if_ndec <;> intro h1
  · rcases l with _ | ⟨a, y, b⟩
    · exact absurd rfl h1
    repeat (first | (rw [hpa, hrd, hlf]; exact hl) | walk_at "ov")
  · rcases l with _ | ⟨a, y, b⟩
    · repeat (first | (rw [hpa, hrd, hrt]; exact hl) | walk_at "ov")
    · cases h1
theorem cids_app {f : F} {k1 k : C} : f.i ∈ cids (k1 ++ f :: k) := by
  induction k1 with
  | nil =>
    cases f with
    | L d r => exact mem_cids_L.mpr (.inl rfl)
    | R l d => exact mem_cids_R.mpr (.inl rfl)
  | cons g k1 ih =>
    cases g with
    | L d r => exact mem_cids_L.mpr (.inr (.inr ih))
    | R l d => exact mem_cids_R.mpr (.inr (.inr ih))
theorem ctop_app {f : F} {k1 k : C} (hd : (cids (k1 ++ f :: k)).Nodup) : ctop (k1 ++ f :: k) = some f.i ↔ k1 = [] := by
  constructor
  · intro e
    rcases k1 with _ | ⟨g, k1⟩
    · rfl
    · exfalso
      have e : g.i = f.i := Option.some.inj e
      have hm := cids_app (f := f) (k1 := k1) (k := k)
      rw [← e] at hm
      cases g with
      | L d r => exact (nd_L hd).2.2.2.1 hm
      | R l d => exact (nd_R hd).2.2.2.1 hm
  · intro e; subst e; rfl
theorem not_mem_cut {A B : List Kt} {d : D} {ks : List Kt} (h : (ks.map (·.1)).Nodup) (e : ks = A ++ d.key :: B) : d.i ∉ (A ++ B).map (·.1) := by
  subst e
  intro hm
  simp only [List.map_append, List.map_cons, List.nodup_append, List.nodup_cons, List.mem_append, List.mem_cons, D.key] at h hm
  grind

theorem drop_body {x : Nat} {t : T} {Q : V → St → Prop} (wk : W.Ok) (ok : c.Ok W 5) (hc : c.cs = scopeOf (stmtAt 16)) (H1 : Fn W 0 "greatest_end" greS) (H2 : Fn W 4 "colour_dropped" colDropS) (H3 : Fn W 1 "hand_down_to" downToS) (H4 : Fn W 1 "first_below" firstS) (H5 : Fn W 0 "hang" hangF) (H6 : Fn W 1 "take_place" takeS)
  (h : Z st [] t) (z : ∀ i, st.off i = 0) (g : Good t) (hx : x ∈ t.ids) (hn : st.nn ≤ 900)
  (q : ∀ st' w A B b e, Z st' [] w → Good w → t.keys = A ++ (x, b, e) :: B → w.keys = A ++ B → st'.cnt = st.cnt - 1 → Kc st st' → Q .none st') :
  TriS W c (bodyOf (stmtAt 16)) [("tree", .tree), ("node", .node x)] st (LeaveQ st.lists.length Q) := by
  obtain ⟨k, l, d, r, rfl, rfl⟩ := exists_plug hx
  have h0 : Z (st.sCnt (st.cnt - 1)) k (.node l d r) := Z.all_iff.mpr (h.congr rfl rfl fun j _ => ⟨rfl, rfl, rfl, rfl, rfl, rfl, rfl, rfl⟩)
  have z0 : ∀ i, (st.sCnt (st.cnt - 1)).off i = 0 := z
  have q0 : ∀ st' w A B, Z st' [] w → Good w → keysAt k (.node l d r) = A ++ d.key :: B → w.keys = A ++ B → Kp (st.sCnt (st.cnt - 1)) st' → Q .none st' := fun st' w A B g1 g2 g3 g4 g5 =>
    q st' w A B d.b d.e g1 g2 (plug_keys.trans g3) g4 g5.cnt ⟨fun i => (congrFun g5.off i).trans (z i), g5.nn, g5.lists, g5.places⟩
  have hn0 : (st.sCnt (st.cnt - 1)).nn ≤ 900 := hn
  have hN : (st.sCnt (st.cnt - 1)).lists.length = st.lists.length := rfl
  refine TriS_cons ?_
  walk_at "ovs"
  generalize st.sCnt (st.cnt - 1) = s0 at h0 z0 q0 hn0 hN ⊢
  refine ⟨d.i, k, .node l d r, rfl, h0, rfl, z0, hn0, ?_⟩
  have hlf : s0.lf d.i = l.top := h0.at.lf
  have hrt : s0.rt d.i = r.top := h0.at.rt
  have hpa : s0.pa d.i = ctop k := h0.at.pa
  have hrd : s0.red d.i = d.red := h0.at.red
  by_cases hh : l = .nil ∨ r = .nil
  · obtain ⟨c1, c2, c3, ⟨A, B, c4, c5⟩, -⟩ := h0.cut hh
    have hC := cut_of g hh
    have z1 : ∀ i, (hangS s0 (ctop k) d.i (sonOf l r).top).off i = 0 := fun i => (congrFun c2.off i).trans (z0 i)
    have hl := drop_rest (v1 := .node d.i) wk ok hc H1 H2 c1 z1 hC c3 ((congrArg List.length c2.lists).trans hN) fun st' w g1 g2 g3 g4 => q0 st' w A B g1 g3 c4 (g2.trans c5) (c2.trans g4)
    have hl2 := drop_mid (x := d.i) wk ok hc H5 h0 (N := st.lists.length) (Q := Q) (by
      refine TriS_cons ?_
      walk_at "ovs"
      apply if_ndec <;> intro h1
      · exact absurd rfl h1
      · exact TriS_nil hl)
    walk_at "ovs"
    apply if_ndec <;> intro h1
    · walk_at "ovs"
      apply if_ndec <;> intro h2
      · exfalso
        rcases hh with rfl | rfl
        · exact h1 hlf
        · exact h2 hrt
      · exact TriS_nil hl2
    · exact TriS_nil hl2
  · have hh1 : l ≠ .nil := fun e => hh (.inl e)
    have hh2 : r ≠ .nil := fun e => hh (.inr e)
    obtain ⟨j, hj⟩ : ∃ j, r.top = some j := by
      cases r with
      | nil => exact absurd rfl hh2
      | node a y b => exact ⟨_, rfl⟩
    have hlt : l.top ≠ none := by
      cases l with
      | nil => exact absurd rfl hh1
      | node a y b => exact fun e => by cases e
    have hr : Z s0 (.R l d :: k) r := Z.put_iff.mpr h0
    have hrt' : s0.rt d.i = some j := hrt.trans hj
    walk_at "ovs"
    rw [hlf]
    apply if_ndec <;> intro h1
    rotate_left
    · exact absurd h1 hlt
    walk_at "ovs"
    apply if_ndec <;> intro h2
    rotate_left
    · cases (hrt'.symm.trans h2)
    walk_at "ovs"
    refine ⟨j, .R l d :: k, r, by rw [hrt']; rfl, hr, hj, z0, ?_⟩
    rintro k1 gd s e1 e2
    subst e1
    have hz : Z s0 (k1 ++ .R l d :: k) (.node .nil gd s) := Z.plug_iff.mpr hr
    obtain ⟨c1, c2, c3, -, cg⟩ := hz.cut (.inl rfl)
    have c1 : Z (hangS s0 (ctop (k1 ++ .R l d :: k)) gd.i s.top) (k1 ++ .R l d :: k) s := c1
    have c2 : Kp s0 (hangS s0 (ctop (k1 ++ .R l d :: k)) gd.i s.top) := c2
    have c3 : gd.i ∉ (keysAt (k1 ++ .R l d :: k) s).map (·.1) := c3
    have cg : Ag s0 (hangS s0 (ctop (k1 ++ .R l d :: k)) gd.i s.top) gd.i := cg
    have hC := cut_of (k := k1 ++ .R l d :: k) (by rw [plug_append]; exact g) (.inl rfl)
    have hC : CutA (k1 ++ .R l d :: k) s gd.red := hC
    have z1 : ∀ i, (hangS s0 (ctop (k1 ++ .R l d :: k)) gd.i s.top).off i = 0 := fun i => (congrFun c2.off i).trans (z0 i)
    have w1 := Z.put_iff.mp (Z.plug_iff.mp c1)
    have w1 : Z (hangS s0 (ctop (k1 ++ .R l d :: k)) gd.i s.top) k (.node l d (plug k1 s)) := w1
    have ag := hz.at
    obtain ⟨w2, w3⟩ := TP_Z w1 z1 (by
      have : keysAt k (.node l d (plug k1 s)) = keysAt (k1 ++ .R l d :: k) s := by rw [keysAt_plug, keysAt_R]
      rw [this]; exact c3) (by rw [c2.nn]; exact ag.nn) (cg.num.trans ag.num)
    rw [cg.bg, cg.en, ag.bg, ag.en] at w2
    generalize hd' : (⟨gd.i, gd.b, gd.e, gr gd.e l.mo (plug k1 s).mo, d.red⟩ : D) = d' at w2
    have hdk : d'.key = gd.key := by rw [← hd']; rfl
    have hdi : d'.i = gd.i := by rw [← hd']
    have hdr : d'.red = d.red := by rw [← hd']
    have w4 : Z (TP (hangS s0 (ctop (k1 ++ .R l d :: k)) gd.i s.top) d.i gd.i) (k1 ++ .R l d' :: k) s := Z.plug_iff.mpr (Z.put_iff.mpr w2)
    have kp : Kp s0 (TP (hangS s0 (ctop (k1 ++ .R l d :: k)) gd.i s.top) d.i gd.i) := c2.trans w3
    have z4 : ∀ i, (TP (hangS s0 (ctop (k1 ++ .R l d :: k)) gd.i s.top) d.i gd.i).off i = 0 := fun i => (congrFun kp.off i).trans (z0 i)
    have ek : keysAt (k1 ++ .R l d' :: k) s = (lefts k ++ l.keys) ++ ((plug k1 (.node .nil gd s)).keys ++ rights k) := by
      rw [keysAt_plug, keysAt_R, plug_keys]
      simp only [keysAt, T.keys, hdk, e2, plug_keys]
      simp
    have ek0 : keysAt k (.node l d (plug k1 (.node .nil gd s))) = (lefts k ++ l.keys) ++ d.key :: ((plug k1 (.node .nil gd s)).keys ++ rights k) := by simp [keysAt, T.keys]
    have hxn : d.i ∉ (keysAt (k1 ++ .R l d' :: k) s).map (·.1) := by rw [ek]; exact not_mem_cut h0.nd ek0
    have hne : gd.i ≠ d.i := by
      intro e
      have := (dj_iff.mp hz.nd).d gd.i (mem_ids_node.mpr (.inr (.inl rfl)))
      apply this
      rw [e]
      exact cids_app (f := .R l d)
    have hl := drop_rest (v1 := .node gd.i) (x := d.i) wk ok hc H1 H2 w4 z4 (hC.swap hdr) hxn ((congrArg List.length kp.lists).trans hN) fun st' w g1 g2 g3 g4 => q0 st' w _ _ g1 g3 ek0 (g2.trans ek) (kp.trans g4)
    have hl2 := drop_mid (x := d.i) wk ok hc H5 hz (N := st.lists.length) (Q := Q) (by
      refine TriS_cons ?_
      walk_at "ovs"
      apply if_ndec <;> intro h1
      · walk_at "ovs"
        refine ⟨d.i, gd.i, rfl, ?_⟩
        walk_at "ovs"
        have hcu := ctop_app (f := .R l d) (dj_iff.mp hz.nd).hc
        apply if_dec <;> intro h3
        · have e0 := hcu.mp h3
          subst e0
          have e5 : ctop ([] ++ F.R l d' :: k) = some gd.i := by rw [← hdi]; rfl
          rw [e5] at hl
          repeat (first | exact hl | walk_at "ov")
        · have e0 : k1 ≠ [] := fun e => h3 (hcu.mpr e)
          have e5 : ctop (k1 ++ F.R l d' :: k) = ctop (k1 ++ F.R l d :: k) := by
            cases k1 with
            | nil => exact absurd rfl e0
            | cons f k1 => rfl
          rw [e5] at hl
          repeat (first | exact hl | walk_at "ov")
      · exact absurd (Option.some.inj h1) hne)
    repeat (first | exact hl2 | walk_at "ov")
theorem fn_drop (wk : W.Ok) (D : Defd W "drop_node" 16) (H1 : Fn W 0 "greatest_end" greS) (H2 : Fn W 4 "colour_dropped" colDropS) (H3 : Fn W 1 "hand_down_to" downToS) (H4 : Fn W 1 "first_below" firstS) (H5 : Fn W 0 "hang" hangF) (H6 : Fn W 1 "take_place" takeS) : Fn W 5 "drop_node" dropS :=
  Fn.mk D fun f hf => FnOK.of_body (ns := ["tree", "node"]) hf (fun _ _ _ _ _ => args2 fun _ _ => rfl) (by decide) (by decide) (by rintro xs st Q ⟨x, k, rfl, -⟩; rfl)
    (by rintro c st xs Q ok hc ⟨x, k, rfl, h1, h2, h3, h4, h5, h6⟩; exact drop_body wk ok hc H1 H2 H3 H4 H5 H6 h1 h2 h3 h4 h5 h6) (by decide) rfl rfl rfl
end
end
-- == P7
section
set_option linter.unusedVariables false

noncomputable def D.sh (d : D) (o : Int) : D := { d with b := d.b + o, e := d.e + o, m := d.m + o }
/-- the offsets handed down -/
noncomputable def sh (O : Nat → Int) : Int → T → T
  | _, .nil => .nil
  | a, .node l d r => .node (sh O (a + O d.i) l) (d.sh (a + O d.i)) (sh O (a + O d.i) r)
theorem sh_congr {O O' : Nat → Int} : ∀ {t : T} {a : Int}, (∀ j ∈ t.ids, O' j = O j) → sh O' a t = sh O a t
  | .nil, _, _ => rfl
  | .node l d r, a, h => by
    simp only [sh]
    rw [h d.i (mem_ids_node.mpr (.inr (.inl rfl))), sh_congr fun j hj => h j (mem_ids_node.mpr (.inl hj)), sh_congr fun j hj => h j (mem_ids_node.mpr (.inr (.inr hj)))]
theorem sh_top {O O' : Nat → Int} {t : T} {a x : Int} (hd : t.ids.Nodup) (h1 : ∀ j, t.top = some j → O' j = O j + x) (h2 : ∀ j ∈ t.ids, t.top ≠ some j → O' j = O j) : sh O' a t = sh O (a + x) t := by
  cases t with
  | nil => rfl
  | node l d r =>
    obtain ⟨n1, n2, n3, n4, n5⟩ := nd_node hd
    simp only [sh]
    rw [h1 d.i rfl, sh_congr (O := O) (O' := O') (t := l) fun j hj => h2 j (mem_ids_node.mpr (.inl hj)) fun e => n3 (by cases e; exact hj), sh_congr (O := O) (O' := O') (t := r) fun j hj => h2 j (mem_ids_node.mpr (.inr (.inr hj))) fun e => n4 (by cases e; exact hj)]
    rw [show a + (O d.i + x) = a + x + O d.i by omega]
theorem sh_plug {O O' : Nat → Int} {c : C} : ∀ {t t' : T}, (∀ a, sh O' a t' = sh O a t) → (∀ j ∈ cids c, O' j = O j) → ∀ a, sh O' a (plug c t') = sh O a (plug c t) := by
  induction c with
  | nil => exact fun h _ => h
  | cons f c ih =>
    intro t t' h g
    cases f with
    | L d r =>
      refine ih (t := .node t d r) (t' := .node t' d r) (fun a => ?_) fun j hj => g j (mem_cids_L.mpr (.inr (.inr hj)))
      simp only [sh]
      rw [g d.i (mem_cids_L.mpr (.inl rfl)), h, sh_congr fun j hj => g j (mem_cids_L.mpr (.inr (.inl hj)))]
    | R l d =>
      refine ih (t := .node l d t) (t' := .node l d t') (fun a => ?_) fun j hj => g j (mem_cids_R.mpr (.inr (.inr hj)))
      simp only [sh]
      rw [g d.i (mem_cids_R.mpr (.inl rfl)), h, sh_congr fun j hj => g j (mem_cids_R.mpr (.inr (.inl hj)))]
theorem sh_zero {O : Nat → Int} : ∀ {t : T}, (∀ j ∈ t.ids, O j = 0) → sh O 0 t = t
  | .nil, _ => rfl
  | .node l d r, h => by
    have e : (0 : Int) + O d.i = 0 := by rw [h d.i (mem_ids_node.mpr (.inr (.inl rfl)))]; rfl
    simp only [sh, e]
    rw [sh_zero fun j hj => h j (mem_ids_node.mpr (.inl hj)), sh_zero fun j hj => h j (mem_ids_node.mpr (.inr (.inr hj)))]
    simp [D.sh]
theorem sh_ids {O : Nat → Int} : ∀ {t : T} {a : Int}, (sh O a t).ids = t.ids
  | .nil, _ => rfl
  | .node l d r, a => by
    have h1 := sh_ids (O := O) (t := l) (a := a + O d.i)
    have h2 := sh_ids (O := O) (t := r) (a := a + O d.i)
    simp only [T.ids] at h1 h2 ⊢
    simp only [sh, T.keys, List.map_append, List.map_cons, h1, h2, D.key, D.sh]
theorem sh_top' {O : Nat → Int} {t : T} {a : Int} : (sh O a t).top = t.top := by cases t <;> rfl
theorem sh_red {O : Nat → Int} {t : T} {a : Int} : (sh O a t).red = t.red := by cases t <;> rfl
theorem sh_BH {O : Nat → Int} : ∀ {t : T} {a : Int} {n : Nat}, BH (sh O a t) n ↔ BH t n
  | .nil, _, _ => Iff.rfl
  | .node l d r, a, n => by simp only [sh, BH, sh_red, sh_BH (t := l), sh_BH (t := r), D.sh]
noncomputable def T.moO (O : Nat → Int) : T → Option Int
  | .nil => none
  | .node _ d _ => some (d.m + O d.i)
noncomputable def LmO (O : Nat → Int) : T → Prop
  | .nil => True
  | .node l d r => d.m = gr d.e (l.moO O) (r.moO O) ∧ LmO O l ∧ LmO O r
noncomputable def LmOC (O : Nat → Int) : C → Option Int → Prop
  | [], _ => True
  | .L d r :: c, q => d.m = gr d.e q (r.moO O) ∧ LmO O r ∧ LmOC O c (some (d.m + O d.i))
  | .R l d :: c, q => d.m = gr d.e (l.moO O) q ∧ LmO O l ∧ LmOC O c (some (d.m + O d.i))
theorem sh_mo {O : Nat → Int} {t : T} {a : Int} : (sh O a t).mo = (t.moO O).map (· + a) := by
  cases t with
  | nil => rfl
  | node l d r => simp only [sh, T.mo, T.moO, D.sh, Option.map_some]; congr 1; omega
theorem gr_add {e x : Int} {a b : Option Int} : gr (e + x) (a.map (· + x)) (b.map (· + x)) = gr e a b + x := by
  have hm : ∀ (a : Option Int) (z : Int), ole (a.map (· + x)) z ↔ ole a (z - x) := fun a z => by
    cases a with
    | none => exact ole_none.trans ole_none.symm
    | some y => exact ole_some.trans (Int.add_le_iff_le_sub.trans ole_some.symm)
  refine le_ext fun z => ?_
  rw [Int.add_le_iff_le_sub, gr_le, gr_le, hm, hm, Int.add_le_iff_le_sub]
theorem sh_Lm {O : Nat → Int} : ∀ {t : T} {a : Int}, Lm (sh O a t) ↔ LmO O t
  | .nil, _ => Iff.rfl
  | .node l d r, a => by
    simp only [sh, Lm, LmO, sh_Lm (t := l), sh_Lm (t := r), sh_mo]
    show (d.m + (a + O d.i) = gr (d.e + (a + O d.i)) _ _ ∧ _) ↔ _
    rw [gr_add]
    constructor
    · rintro ⟨h1, h2⟩; exact ⟨by omega, h2⟩
    · rintro ⟨h1, h2⟩; exact ⟨by omega, h2⟩
theorem LmO_bn {O : Nat → Int} {s : Bool} {d : D} {a b : T} : LmO O (bn s a d b) ↔ d.m = gr d.e (a.moO O) (b.moO O) ∧ LmO O a ∧ LmO O b := by
  cases s
  · simp only [bn, LmO]; rw [gr_comm]; exact ⟨fun ⟨a, b, c⟩ => ⟨a, c, b⟩, fun ⟨a, b, c⟩ => ⟨a, c, b⟩⟩
  · exact Iff.rfl
theorem LmOC_fr {O : Nat → Int} {s : Bool} {d : D} {o : T} {c : C} {q : Option Int} : LmOC O (fr s d o :: c) q ↔ d.m = gr d.e q (o.moO O) ∧ LmO O o ∧ LmOC O c (some (d.m + O d.i)) := by
  cases s
  · simp only [fr, LmOC]; rw [gr_comm]
  · exact Iff.rfl
theorem bn_moO {O : Nat → Int} {s : Bool} {d : D} {a b : T} : (bn s a d b).moO O = some (d.m + O d.i) := by cases s <;> rfl
theorem LmO_plug {O : Nat → Int} {c : C} : ∀ {t : T}, LmO O t → LmOC O c (t.moO O) → LmO O (plug c t) := by
  induction c with
  | nil => exact fun h _ => h
  | cons f c ih =>
    intro t h g
    obtain ⟨s, d, o, rfl⟩ := exists_fr f
    obtain ⟨h1, h2, h3⟩ := LmOC_fr.mp g
    refine ih (t := (fr s d o).put t) ?_ ?_
    · rw [fr_put]; exact LmO_bn.mpr ⟨h1, h, h2⟩
    · rw [fr_put, bn_moO]; exact h3
theorem moO_congr {O O' : Nat → Int} {t : T} (h : ∀ j ∈ t.ids, O' j = O j) : t.moO O' = t.moO O := by
  cases t with
  | nil => rfl
  | node l d r => simp only [T.moO]; rw [h d.i (mem_ids_node.mpr (.inr (.inl rfl)))]
theorem LmO_congr {O O' : Nat → Int} : ∀ {t : T}, (∀ j ∈ t.ids, O' j = O j) → (LmO O' t ↔ LmO O t)
  | .nil, _ => Iff.rfl
  | .node l d r, h => by
    simp only [LmO]
    rw [moO_congr fun j hj => h j (mem_ids_node.mpr (.inl hj)), moO_congr fun j hj => h j (mem_ids_node.mpr (.inr (.inr hj))), LmO_congr fun j hj => h j (mem_ids_node.mpr (.inl hj)), LmO_congr fun j hj => h j (mem_ids_node.mpr (.inr (.inr hj)))]
theorem moO_zero {O : Nat → Int} {t : T} (h : ∀ j ∈ t.ids, O j = 0) : t.moO O = t.mo := by
  cases t with
  | nil => rfl
  | node l d r => simp only [T.moO, T.mo]; rw [h d.i (mem_ids_node.mpr (.inr (.inl rfl)))]; congr 1; omega
theorem LmO_zero {O : Nat → Int} : ∀ {t : T}, (∀ j ∈ t.ids, O j = 0) → (LmO O t ↔ Lm t)
  | .nil, _ => Iff.rfl
  | .node l d r, h => by
    simp only [LmO, Lm]
    rw [moO_zero fun j hj => h j (mem_ids_node.mpr (.inl hj)), moO_zero fun j hj => h j (mem_ids_node.mpr (.inr (.inr hj))), LmO_zero fun j hj => h j (mem_ids_node.mpr (.inl hj)), LmO_zero fun j hj => h j (mem_ids_node.mpr (.inr (.inr hj)))]
theorem LmOC_zero {O : Nat → Int} {c : C} : ∀ {q : Option Int}, (∀ j ∈ cids c, O j = 0) → (LmOC O c q ↔ LmC c q) := by
  induction c with
  | nil => exact fun _ => Iff.rfl
  | cons f c ih =>
    intro q h
    cases f with
    | L d r =>
      simp only [LmOC, LmC]
      rw [moO_zero fun j hj => h j (mem_cids_L.mpr (.inr (.inl hj))), LmO_zero fun j hj => h j (mem_cids_L.mpr (.inr (.inl hj))), ih fun j hj => h j (mem_cids_L.mpr (.inr (.inr hj))), h d.i (mem_cids_L.mpr (.inl rfl)), Int.add_zero]
    | R l d =>
      simp only [LmOC, LmC]
      rw [moO_zero fun j hj => h j (mem_cids_R.mpr (.inr (.inl hj))), LmO_zero fun j hj => h j (mem_cids_R.mpr (.inr (.inl hj))), ih fun j hj => h j (mem_cids_R.mpr (.inr (.inr hj))), h d.i (mem_cids_R.mpr (.inl rfl)), Int.add_zero]
theorem mxo_moO {st : St} {t : T} {p : Option Nat} {m : Int} (h : Rep st p t) : mxo st m t.top = mm m (t.moO st.off) := by
  cases t with
  | nil => rfl
  | node l d r =>
    show max m (st.lim d.i + st.off d.i) = max m (d.m + st.off d.i)
    rw [h.1.lim]
theorem gre_atO {st : St} {d : D} {l r : T} {p : Option Nat} (h : Rep st p (.node l d r)) : gre st d.i = gr d.e (l.moO st.off) (r.moO st.off) := by
  unfold gre gr
  rw [h.1.en, h.1.lf, h.1.rt, mxo_moO h.2.1, mxo_moO h.2.2]
theorem Z.greO {st : St} {b : Bool} {d : D} {o s : T} {c : C} (h : Z st c (bn b s d o)) : Ov.gre st d.i = gr d.e (s.moO st.off) (o.moO st.off) := by
  cases b
  · exact (gre_atO h.rt).trans (gr_comm ..)
  · exact gre_atO h.rt

/-- a tree without its limits -/
noncomputable def er : T → T
  | .nil => .nil
  | .node l d r => .node (er l) { d with m := 0 } (er r)
theorem er_keys : ∀ {t : T}, (er t).keys = t.keys
  | .nil => rfl
  | .node l d r => by simp only [er, T.keys, er_keys (t := l), er_keys (t := r)]; rfl
theorem er_red {t : T} : (er t).red = t.red := by cases t <;> rfl
theorem er_BH : ∀ {t : T} {n : Nat}, BH (er t) n ↔ BH t n
  | .nil, _ => Iff.rfl
  | .node l d r, n => by simp only [er, BH, er_red, er_BH (t := l), er_BH (t := r)]
theorem er_plug {c : C} : ∀ {t t' : T}, er t = er t' → er (plug c t) = er (plug c t') := by
  induction c with
  | nil => exact fun h => h
  | cons f c ih =>
    intro t t' h
    refine ih (t := f.put t) (t' := f.put t') ?_
    cases f <;> simp only [F.put, er, h]
theorem er_sh_keys {O : Nat → Int} : ∀ {t t' : T} {a : Int}, er t = er t' → (sh O a t).keys = (sh O a t').keys
  | .nil, .nil, _, _ => rfl
  | .node l d r, .node l' d' r', a, h => by
    simp only [er, T.node.injEq, D.mk.injEq] at h
    obtain ⟨h1, ⟨h2, h3, h4, -, h5⟩, h6⟩ := h
    simp only [sh, T.keys, D.key, D.sh, h2, h3, h4, er_sh_keys h1, er_sh_keys h6]
/-- a tree's limit is the greatest end -/
theorem Lm_max : ∀ {t : T} {M : Int}, Lm t → t.mo = some M → (∃ k ∈ t.keys, k.2.2 = M) ∧ ∀ k ∈ t.keys, k.2.2 ≤ M := by
  intro t
  induction t with
  | nil => intro M _ h; cases h
  | node l d r ih1 ih2 =>
    intro M h e
    cases e
    obtain ⟨h1, h2, h3⟩ := h
    obtain ⟨⟨he, hl⟩, hr⟩ := gr_le.mp (Int.le_of_eq h1.symm)
    have hx : d.m = d.e ∨ l.mo = some d.m ∨ r.mo = some d.m := by
      rw [h1]
      rcases mm_mem (mm d.e l.mo) r.mo with h | h
      · rcases mm_mem d.e l.mo with h' | h'
        · exact .inl (h.trans h')
        · exact .inr (.inl (by unfold gr; rw [h]; exact h'))
      · exact .inr (.inr h)
    refine ⟨?_, fun k hk => ?_⟩
    · rcases hx with hx | hx | hx
      · exact ⟨d.key, by simp [T.keys], hx.symm⟩
      · obtain ⟨⟨k, h4, h5⟩, -⟩ := ih1 h2 hx
        exact ⟨k, by simp [T.keys, h4], h5⟩
      · obtain ⟨⟨k, h4, h5⟩, -⟩ := ih2 h3 hx
        exact ⟨k, by simp [T.keys, h4], h5⟩
    · simp only [T.keys, List.mem_append, List.mem_cons] at hk
      rcases hk with hk | rfl | hk
      · cases hm : l.mo with
        | none => cases l with
          | nil => cases hk
          | node _ _ _ => cases hm
        | some x => exact Int.le_trans ((ih1 h2 hm).2 k hk) (hl x hm)
      · exact he
      · cases hm : r.mo with
        | none => cases r with
          | nil => cases hk
          | node _ _ _ => cases hm
        | some x => exact Int.le_trans ((ih2 h3 hm).2 k hk) (hr x hm)

/-- hand_down at a node of the tree -/
structure Kh (st st' : St) : Prop where
  nn : st'.nn = st.nn
  cnt : st'.cnt = st.cnt
  lists : st'.lists = st.lists
  places : st'.places = st.places
theorem HD_off {st : St} {l r : T} {d : D} {c : C} (h : Z st c (.node l d r)) (j : Nat) : (HD st d.i).off j = if j = d.i then 0 else if l.top = some j ∨ r.top = some j then st.off j + st.off d.i else st.off j := by
  obtain ⟨n1, n2, n3, n4, n5⟩ := nd_node (dj_iff.mp h.nd).ht
  unfold HD
  by_cases h0 : st.off d.i = 0
  · rw [if_pos h0]
    split
    · rename_i e; rw [e]; exact h0
    · split <;> omega
  · rw [if_neg h0]
    dsimp only
    have e1 : st.lf d.i = l.top := h.at.lf
    have e2 : st.rt d.i = r.top := h.at.rt
    rw [e1, e2]
    cases l with
    | nil =>
      cases r with
      | nil => simp [offAdd, St.sOff, St.sLim, St.sEn, St.sBg, upd, T.top]
      | node rl rd rr =>
        have hne : rd.i ≠ d.i := fun e => n4 (e ▸ mem_ids_node.mpr (.inr (.inl rfl)))
        simp only [offAdd, St.sOff, St.sLim, St.sEn, St.sBg, upd, T.top]
        grind
    | node ll ld lr =>
      have hnl : ld.i ≠ d.i := fun e => n3 (e ▸ mem_ids_node.mpr (.inr (.inl rfl)))
      cases r with
      | nil =>
        simp only [offAdd, St.sOff, St.sLim, St.sEn, St.sBg, upd, T.top]
        grind
      | node rl rd rr =>
        have hnr : rd.i ≠ d.i := fun e => n4 (e ▸ mem_ids_node.mpr (.inr (.inl rfl)))
        have hlr : ld.i ≠ rd.i := fun e => n5 ld.i (mem_ids_node.mpr (.inr (.inl rfl))) (e ▸ mem_ids_node.mpr (.inr (.inl rfl)))
        simp only [offAdd, St.sOff, St.sLim, St.sEn, St.sBg, upd, T.top]
        grind
theorem offAdd_same {st : St} {o : Option Nat} {i : Nat} : (∀ j, Ag st (offAdd st o i) j) ∧ Kh st (offAdd st o i) ∧ (offAdd st o i).root = st.root := by
  cases o <;> exact ⟨fun j => ⟨rfl, rfl, rfl, rfl, rfl, rfl, rfl, rfl⟩, ⟨rfl, rfl, rfl, rfl⟩, rfl⟩
theorem Z.setI {st st' : St} {c : C} {l r : T} {d d' : D} (h : Z st c (.node l d r)) (n : st'.nn = st.nn) (ro : st'.root = st.root) (a : ∀ j, j ≠ d.i → Ag st st' j) (hi : d'.i = d.i)
    (g : At st' d' l.top r.top (ctop c)) : Z st' c (.node l d' r) := by
  have nd := h.nd
  have dj := dj_iff.mp nd
  obtain ⟨n1, n2, n3, n4, n5⟩ := nd_node dj.ht
  obtain ⟨h1, ⟨h2, h3, h4⟩, -⟩ := h
  refine ⟨?_, ⟨g, ?_, ?_⟩, ?_⟩
  · show RepC st' c (some d'.i)
    rw [hi]
    exact RepC.congr n ro (fun j hj => a j fun e => dj.d d.i (mem_ids_node.mpr (.inr (.inl rfl))) (e ▸ hj)) h1
  · rw [hi]; exact Rep.congr n (fun j hj => a j fun e => n3 (e ▸ hj)) h3
  · rw [hi]; exact Rep.congr n (fun j hj => a j fun e => n4 (e ▸ hj)) h4
  · simpa [keysAt, T.keys, D.key, hi] using nd
theorem HD_Z {st : St} {l r : T} {d : D} {c : C} (h : Z st c (.node l d r)) : Z (HD st d.i) c (.node l (d.sh (st.off d.i)) r) ∧ Kh st (HD st d.i) := by
  unfold HD
  by_cases h0 : st.off d.i = 0
  · rw [if_pos h0, h0]
    have : d.sh 0 = d := by simp [D.sh]
    rw [this]
    exact ⟨h, rfl, rfl, rfl, rfl⟩
  · rw [if_neg h0]
    dsimp only
    generalize hs3 : ((st.sBg d.i (st.bg d.i + st.off d.i)).sEn d.i ((st.sBg d.i (st.bg d.i + st.off d.i)).en d.i + (st.sBg d.i (st.bg d.i + st.off d.i)).off d.i)).sLim d.i (((st.sBg d.i (st.bg d.i + st.off d.i)).sEn d.i ((st.sBg d.i (st.bg d.i + st.off d.i)).en d.i + (st.sBg d.i (st.bg d.i + st.off d.i)).off d.i)).lim d.i + ((st.sBg d.i (st.bg d.i + st.off d.i)).sEn d.i ((st.sBg d.i (st.bg d.i + st.off d.i)).en d.i + (st.sBg d.i (st.bg d.i + st.off d.i)).off d.i)).off d.i) = s3
    have k3 : Kh st s3 ∧ s3.root = st.root := hs3 ▸ ⟨⟨rfl, rfl, rfl, rfl⟩, rfl⟩
    have a3 : ∀ j, j ≠ d.i → Ag st s3 j := fun j hj => hs3 ▸ ⟨if_neg hj, if_neg hj, if_neg hj, rfl, rfl, rfl, rfl, rfl⟩
    have g3 : At s3 (d.sh (st.off d.i)) l.top r.top (ctop c) := by
      have a := h.at
      subst hs3
      exact ⟨(upd_self ..).trans (congrArg (· + st.off d.i) a.bg), (upd_self ..).trans (congrArg (· + st.off d.i) a.en), (upd_self ..).trans (congrArg (· + st.off d.i) a.lim), a.red, a.lf, a.rt, a.pa, a.num, a.nn⟩
    have z3 : Z s3 c (.node l d r) → True := fun _ => trivial
    obtain ⟨b1, b2, b3⟩ := offAdd_same (st := s3) (o := st.lf d.i) (i := d.i)
    generalize offAdd s3 (st.lf d.i) d.i = s4 at b1 b2 b3
    obtain ⟨b4, b5, b6⟩ := offAdd_same (st := s4) (o := st.rt d.i) (i := d.i)
    generalize offAdd s4 (st.rt d.i) d.i = s5 at b4 b5 b6
    have a5 : ∀ j, Ag s3 (s5.sOff d.i 0) j := fun j => ((b1 j).trans (b4 j)).trans ⟨rfl, rfl, rfl, rfl, rfl, rfl, rfl, rfl⟩
    have n5 : (s5.sOff d.i 0).nn = s3.nn := b5.nn.trans b2.nn
    refine ⟨h.setI (n5.trans k3.1.nn) (b6.trans (b3.trans k3.2)) (fun j hj => (a3 j hj).trans (a5 j)) ?_ ?_, ?_⟩
    · rfl
    · exact g3.ag (a5 _) n5
    · exact ⟨n5.trans k3.1.nn, b5.cnt.trans (b2.cnt.trans k3.1.cnt), b5.lists.trans (b2.lists.trans k3.1.lists), b5.places.trans (b2.places.trans k3.1.places)⟩
end
-- == M27
section
open PySem PySem.W PySem.Calls PyProof.Rows
set_option linter.unusedVariables false
set_option linter.unusedSimpArgs false
set_option maxRecDepth 100000
set_option maxHeartbeats 4000000
section
variable {W : Wc} {c : Fc} {ρ : Env0} {st : St}

inductive renewS (xs : List V) (st : St) (Q : V → St → Prop) : Prop
  | mk : ∀ s d o k t q, (xs = [.node d.i]) → (Z st (fr s d o :: k) t) → (LmO st.off t) → (LmOC st.off (fr s d o :: k) q) → ((∀ f ∈ fr s d o :: k, st.off f.i = 0)) → (∀ st' w, Z st' [] w → LmO st.off w → er w = er (plug (fr s d o :: k) t) → Kp st st' → Q .none st') → renewS xs st Q
inductive RNW (st : St) (w : T) (m : Nat) (ρ : Env0) (s1 : St) : Prop
  | mk : ∀ k2 t' q', ρ = ([("node", ov (ctop k2))] : Env0) → m = k2.length → Z s1 k2 t' → LmO st.off t' → LmOC st.off k2 q' → (∀ f ∈ k2, st.off f.i = 0) → er (plug k2 t') = er w → Kp st s1 → RNW st w m ρ s1
theorem renew_body {s : Bool} {d : D} {o t : T} {k : C} {q : Option Int} {Q : V → St → Prop} (wk : W.Ok) (ok : c.Ok W 1) (hc : c.cs = scopeOf (stmtAt 6)) (H1 : Fn W 0 "greatest_end" greS)
  (h : Z st (fr s d o :: k) t) (hl : LmO st.off t) (hq : LmOC st.off (fr s d o :: k) q) (hz : ∀ f ∈ fr s d o :: k, st.off f.i = 0)
  (hk : ∀ st' w, Z st' [] w → LmO st.off w → er w = er (plug (fr s d o :: k) t) → Kp st st' → Q .none st') :
  TriS W c (bodyOf (stmtAt 6)) [("node", .node d.i)] st (LeaveQ st.lists.length Q) := by
  refine TriS_cons ?_
  refine TriX_while (RNW st (plug (fr s d o :: k) t))
    ⟨_, _, Sub.refl, fr s d o :: k, t, q, by rw [ctop_fr]; rfl, rfl, h, hl, hq, hz, rfl, Kp.refl st⟩ ?_
  rintro m ρ s1 ⟨k2, t', q', rfl, rfl, hZ, h1, h2, h3, h4, kp⟩
  walk_at "ovs"
  apply if_ndec <;> intro g1
  · rcases k2 with _ | ⟨f, k3⟩
    · exact absurd rfl g1
    obtain ⟨s', f, o', rfl⟩ := exists_fr f
    obtain ⟨l1, l2, l3⟩ := LmOC_fr.mp h2
    have hb := Z.fr_iff.mp hZ
    have hg := hb.greO
    rw [kp.off] at hg
    have hf0 : st.off f.i = 0 := by have := h3 _ (.head _); rwa [fr_i] at this
    have hct : ctop (fr s' f o' :: k3) = some f.i := ctop_fr
    have hlim : s1.lim f.i = f.m := hb.bnAt.lim
    have hpa : s1.pa f.i = ctop k3 := hb.bnAt.pa
    rw [hct, ovS]
    walk_at "ovs"
    rw [hg, hlim]
    apply if_dec <;> intro g2
    · walk_at "ovs"
      refine leave_ret rfl (congrArg List.length kp.lists) (hk s1 _ (Z.all_iff.mp hZ) (LmO_plug h1 (LmOC_fr.mpr ⟨g2.symm, l2, l3⟩)) h4 kp)
    · walk_at "ovs"
      simp only [sLim_pa]
      rw [hpa]
      refine ⟨k3.length, _, by simp, Sub.cons rfl Sub.nil, k3, bn s' t' { f with m := gr f.e (t'.moO st.off) (o'.moO st.off) } o', _, rfl, rfl, hb.bnLim _, LmO_bn.mpr ⟨rfl, h1, l2⟩, l3, fun x hx => h3 x (.tail _ hx), ?_, kp.trans ⟨rfl, rfl, rfl, rfl, rfl⟩⟩
      rw [← h4]
      show _ = er (plug k3 ((fr s' f o').put t'))
      rw [fr_put]
      refine er_plug ?_
      cases s' <;> simp [bn, er]
  · rcases k2 with _ | ⟨f, k3⟩
    · walk_at "ovs"
      exact leave_next (congrArg List.length kp.lists) (hk s1 _ hZ h1 h4 kp)
    · cases g1
theorem fn_renew (wk : W.Ok) (D : Defd W "renew_limits" 6) (H1 : Fn W 0 "greatest_end" greS) : Fn W 1 "renew_limits" renewS :=
  Fn.mk D fun f hf => FnOK.of_body (ns := ["node"]) hf (fun _ _ _ _ _ => args1 fun _ => rfl) (by decide) (by decide) (by rintro xs st Q ⟨s, d, o, k, t, q, rfl, -⟩; rfl)
    (by rintro c st xs Q ok hc ⟨s, d, o, k, t, q, rfl, h1, h2, h3, h4, h5⟩; exact renew_body wk ok hc H1 h1 h2 h3 h4 h5) (by decide) rfl rfl rfl

/-- the pot of numbers -/
noncomputable def PotL (xs : List V) (n : Nat) : Prop := ∃ (ns : List Int) (a sd : Int), xs = [.fl (ns.map .int), .int a, .int sd] ∧ 0 ≤ a ∧ a ≤ n ∧ 0 ≤ sd ∧ sd < 2 ^ 63 ∧ ns.length ≤ 1000
inductive dipS (xs : List V) (st : St) (Q : V → St → Prop) : Prop
  | mk : ∀ p m n P, (xs = [.list p, .int m]) → (0 < m) → (st.lists[p]? = some P) → (PotL P n) → (n ≤ 2 ^ 60) → (∀ P' r, PotL P' (n + 1) → 0 ≤ r → r < m → Q (.int r) (st.setL p P')) → dipS xs st Q
theorem setL_setL {i : Nat} {xs ys : List V} : (st.setL i xs).setL i ys = st.setL i ys := by
  unfold St.setL; simp
theorem setL_get {i : Nat} {xs ys : List V} (h : st.lists[i]? = some ys) : (st.setL i xs).lists[i]? = some xs := by
  have := (List.getElem?_eq_some_iff.mp h).1
  simp [St.setL, this]
theorem setL_len {i : Nat} {xs : List V} : (st.setL i xs).lists.length = st.lists.length := by simp [St.setL]
theorem dip_body {p : Nat} {m : Int} {n : Nat} {P : List V} {Q : V → St → Prop} (wk : W.Ok) (ok : c.Ok W 0) (hc : c.cs = scopeOf (stmtAt 25)) (bl : nsIn W.K mainGlobals "len" = some none)
  (hm : 0 < m) (hp : st.lists[p]? = some P) (hP : PotL P n) (hn : n ≤ 2 ^ 60) (hq : ∀ P' r, PotL P' (n + 1) → 0 ≤ r → r < m → Q (.int r) (st.setL p P')) :
  TriS W c (bodyOf (stmtAt 25)) [("pot", .list p), ("many", .int m)] st (LeaveQ st.lists.length Q) := by
  obtain ⟨ns, a, sd, rfl, h0, h1, h2, h3, h4⟩ := hP
  refine TriS_cons ?_
  walk_at "ovs"
  refine ⟨_, rfl, _, _, hp, by decide, by decide, rfl, ?_⟩
  walk_at "ovs"
  refine ⟨_, rfl, rfl, _, hp, by decide, by decide, by simp, ?_⟩
  obtain ⟨s1, hs1⟩ : ∃ s1, s1 = st.setL p [.fl (ns.map .int), .int (a + 1), .int sd] := ⟨_, rfl⟩
  rw [show st.setL p (List.set [V.fl (List.map V.int ns), V.int a, V.int sd] (Int.toNat 1) (V.int (a + 1))) = s1 from hs1.symm]
  have hp1 : s1.lists[p]? = some [.fl (ns.map .int), .int (a + 1), .int sd] := hs1 ▸ setL_get hp
  have hl1 : s1.lists.length = st.lists.length := hs1 ▸ setL_len
  walk_at "ovs"
  refine ⟨_, rfl, _, _, hp1, by decide, by decide, rfl, ?_⟩
  refine ⟨ns.length, .inl ⟨_, rfl, by simp⟩, h4, ?_⟩
  walk_at "ovs"
  apply if_dec <;> intro g
  · walk_at "ovs"
    refine ⟨_, rfl, _, _, hp1, by decide, by decide, rfl, ?_⟩
    walk_at "ovs"
    obtain ⟨x, hx⟩ : ∃ x, ns[a.toNat]? = some x := ⟨ns[a.toNat]'(by omega), by simp⟩
    refine ⟨_, rfl, .int x, h0, by omega, by simp [hx], ?_⟩
    walk_at "ovs"
    refine ⟨_, _, rfl, rfl, by omega, ?_⟩
    refine leave_ret rfl hl1 ?_
    rw [hs1]
    exact hq _ _ ⟨ns, a + 1, sd, rfl, by omega, by omega, h2, h3, h4⟩ (Int.fmod_nonneg_of_pos _ hm) (Int.fmod_lt_of_pos _ hm)
  · walk_at "ovs"
    refine ⟨_, rfl, _, _, hp1, by decide, by decide, rfl, ?_⟩
    walk_at "ovs"
    refine ⟨_, _, rfl, rfl, ⟨h2, h3⟩, ?_⟩
    walk_at "ovs"
    refine ⟨_, _, rfl, rfl, by decide, ?_⟩
    walk_at "ovs"
    refine ⟨_, rfl, rfl, _, hp1, by decide, by decide, by simp, ?_⟩
    rw [show s1.setL p (List.set [V.fl (List.map V.int ns), V.int (a + 1), V.int sd] (Int.toNat 2) (V.int ((sd * 75 + 74).fmod 65537))) = st.setL p [.fl (ns.map .int), .int (a + 1), .int ((sd * 75 + 74).fmod 65537)] from by rw [hs1, setL_setL]; rfl]
    have hp2 : (st.setL p [.fl (ns.map .int), .int (a + 1), .int ((sd * 75 + 74).fmod 65537)]).lists[p]? = some [.fl (ns.map .int), .int (a + 1), .int ((sd * 75 + 74).fmod 65537)] := setL_get hp
    have f0 : 0 ≤ (sd * 75 + 74).fmod 65537 := Int.fmod_nonneg_of_pos _ (by decide)
    have f1 : (sd * 75 + 74).fmod 65537 < 65537 := Int.fmod_lt_of_pos _ (by decide)
    walk_at "ovs"
    refine ⟨_, rfl, _, _, hp2, by decide, by decide, rfl, ?_⟩
    walk_at "ovs"
    refine ⟨_, _, rfl, rfl, by omega, ?_⟩
    refine leave_ret rfl setL_len ?_
    exact hq _ _ ⟨ns, a + 1, _, rfl, by omega, by omega, f0, by omega, h4⟩ (Int.fmod_nonneg_of_pos _ hm) (Int.fmod_lt_of_pos _ hm)
theorem fn_dip (wk : W.Ok) (D : Defd W "_law_dip" 25) (bl : nsIn W.K mainGlobals "len" = some none) : Fn W 0 "_law_dip" dipS :=
  Fn.mk D fun f hf => FnOK.of_body (ns := ["pot", "many"]) hf (fun _ _ _ _ _ => args2 fun _ _ => rfl) (by decide) (by decide) (by rintro xs st Q ⟨p, m, n, P, rfl, -⟩; rfl)
    (by rintro c st xs Q ok hc ⟨p, m, n, P, rfl, h1, h2, h3, h4, h5⟩; exact dip_body wk ok hc bl h1 h2 h3 h4 h5) (by decide) rfl rfl rfl

/-- the dict of places -/
noncomputable def kv (k : Kt) : Int × V := ((k.1 : Int), .tup [.int k.2.1, .int k.2.2])
noncomputable def plc (ks : List Kt) : List (Int × V) := ks.map kv
theorem getP_plc {ks : List Kt} {i : Nat} {b e : Int} (hd : (ks.map (·.1)).Nodup) (h : (i, b, e) ∈ ks) : (plc ks).find? (fun p => p.1 = (i : Int)) = some (kv (i, b, e)) := by
  induction ks with
  | nil => cases h
  | cons k r ih =>
    simp only [List.map_cons, List.nodup_cons] at hd
    simp only [plc, List.map_cons, List.find?_cons]
    rcases List.mem_cons.mp h with rfl | h
    · simp [kv]
    · have : ¬ (k.1 : Int) = i := fun e => hd.1 (by
        have e : k.1 = i := by omega
        rw [e]; exact List.mem_map_of_mem (f := (·.1)) h)
      simp only [kv, this, decide_false]
      exact ih hd.2 h
noncomputable def shk (ns : List Nat) (m : Int) (k : Kt) : Kt := if k.1 ∈ ns then (k.1, k.2.1 + m, k.2.2 + m) else k
theorem shk_fst {ns : List Nat} {m : Int} {k : Kt} : (shk ns m k).1 = k.1 := by unfold shk; split <;> rfl
theorem key_uniq {ks : List Kt} {k k' : Kt} (hd : (ks.map (·.1)).Nodup) (h : k ∈ ks) (h' : k' ∈ ks) (e : k.1 = k'.1) : k = k' := by
  induction ks with
  | nil => cases h
  | cons x r ih =>
    simp only [List.map_cons, List.nodup_cons] at hd
    have m1 : ∀ y ∈ r, y.1 ≠ x.1 := fun y hy z => hd.1 (z ▸ List.mem_map_of_mem (f := (·.1)) hy)
    rcases List.mem_cons.mp h with h | h <;> rcases List.mem_cons.mp h' with h' | h'
    · rw [h, h']
    · exact absurd (by rw [← e, h]) (m1 k' h')
    · exact absurd (by rw [e, h']) (m1 k h)
    · exact ih hd.2 h h'
theorem putP_shk {ks : List Kt} {i : Nat} {b e m : Int} (hd : (ks.map (·.1)).Nodup) (h : (i, b, e) ∈ ks) : putP (plc ks) i (.tup [.int (b + m), .int (e + m)]) = plc (ks.map (shk [i] m)) := by
  unfold putP
  rw [if_pos]
  · unfold plc
    rw [List.map_map, List.map_map]
    refine List.map_congr_left fun k hk => ?_
    simp only [Function.comp, kv, shk, List.mem_singleton]
    by_cases e1 : k.1 = i
    · have : k = (i, b, e) := key_uniq hd hk h e1
      subst this
      simp
    · have : ¬ (k.1 : Int) = i := by omega
      simp [e1, this]
  · rw [List.any_eq_true]
    exact ⟨kv (i, b, e), List.mem_map_of_mem (f := kv) h, by simp [kv]⟩
noncomputable def idv (ns : List Nat) : List V := ns.map fun (i : Nat) => V.int (i : Int)
theorem shk_cons {i : Nat} {ns : List Nat} {m : Int} {k : Kt} (h : i ∉ ns) : shk (i :: ns) m k = shk ns m (shk [i] m k) := by
  unfold shk
  by_cases e : k.1 = i
  · subst e; simp [h]
  · simp [e]
inductive shiftS (xs : List V) (st : St) (Q : V → St → Prop) : Prop
  | mk : ∀ (ns : List Nat) (m : Int) (ks : List Kt), (xs = [.dict, .fl (idv ns), .int m]) → (st.places = plc ks) → ((ks.map (·.1)).Nodup) → (ns.Nodup) → ((∀ i ∈ ns, i ∈ ks.map (·.1))) → (ks.length ≤ 1000) → (Q .none (st.setP (plc (ks.map (shk ns m))))) → shiftS xs st Q
theorem setP_same (h : st.places = x) : st.setP x = st := by subst h; rfl
theorem shift_loop {m : Int} {v0 : V} {N : Nat} {Q : V → St → Prop} (wk : W.Ok) (ok : c.Ok W 0) (hc : c.cs = scopeOf (stmtAt 27)) : ∀ (ns : List Nat) (ks : List Kt) (st : St) (ρ : Env0) (px : Pos) (b : List Stmt) (e : Expr) (p : Pos),
    (bodyOf (stmtAt 27))[0]? = some (.For (.Name "number" px) e b [] p) →
    (ρ = ([("places", .dict), ("numbers", v0), ("many", .int m)] : Env0) ∨ ∃ v, ρ = ([("places", .dict), ("numbers", v0), ("many", .int m), ("number", v)] : Env0)) →
    st.places = plc ks → (ks.map (·.1)).Nodup → ns.Nodup → (∀ i ∈ ns, i ∈ ks.map (·.1)) → ks.length ≤ 1000 → st.lists.length = N → Q .none (st.setP (plc (ks.map (shk ns m)))) →
    ForT W c "number" b (idv ns) ρ st fun f ρ' st' => match f with
      | .next => TriS W c [] ρ' st' (LeaveQ N Q)
      | f => LeaveQ N Q f ρ' st' := by
  intro ns
  induction ns with
  | nil =>
    intro ks st ρ px b e p hb hρ hp hd hn hm hl hN hq
    refine forT_nil (TriS_nil (leave_next hN ?_))
    have : ks.map (shk [] m) = ks := by
      have : shk [] m = id := by funext k; simp [shk]
      rw [this, List.map_id]
    rw [this, setP_same hp] at hq
    exact hq
  | cons i ns ih =>
    intro ks st ρ px b e p hb hρ hp hd hn hm hl hN hq
    have ih0 := ih
    cases hb
    obtain ⟨⟨i', b, e⟩, hk, rfl⟩ := List.mem_map.mp (hm i (.head _))
    have hf : (st.places.find? fun p => p.1 = (i' : Int)).map (·.2) = some (.tup [.int b, .int e]) := by rw [hp, getP_plc hd hk]; rfl
    rw [List.nodup_cons] at hn
    have hd2 : ((ks.map (shk [i'] m)).map (·.1)).Nodup := by
      rw [List.map_map, show (fun x : Kt => x.1) ∘ shk [i'] m = fun x => x.1 from funext fun k => shk_fst]; exact hd
    rcases hρ with rfl | ⟨v, rfl⟩
    all_goals
      refine forT_cons ?_
      walk_at "ovs"
      refine ⟨_, rfl, _, hf, ?_⟩
      walk_at "ovs"
      refine ⟨_, rfl, _, by decide, by decide, rfl, ?_⟩
      walk_at "ovs"
      refine ⟨_, rfl, _, hf, ?_⟩
      walk_at "ovs"
      refine ⟨_, rfl, _, by decide, by decide, rfl, ?_⟩
      walk_at "ovs"
      refine ⟨_, rfl, rfl, by rw [hp]; simp [plc]; omega, ?_⟩
      rw [hp, putP_shk hd hk]
      walk_at "ovs"
      refine ih (ks.map (shk [i'] m)) (st.setP (plc (ks.map (shk [i'] m)))) _ _ _ _ _ rfl (.inr ⟨_, rfl⟩) rfl hd2 hn.2 (fun j hj => ?_) (by simpa using hl) hN ?_
      · rw [List.map_map, show (fun x : Kt => x.1) ∘ shk [i'] m = fun x => x.1 from funext fun k => shk_fst]; exact hm j (.tail _ hj)
      · rw [List.map_map, show shk ns m ∘ shk [i'] m = shk (i' :: ns) m from funext fun k => (shk_cons hn.1).symm]
        exact hq
theorem shift_body {ns : List Nat} {m : Int} {ks : List Kt} {Q : V → St → Prop} (wk : W.Ok) (ok : c.Ok W 0) (hc : c.cs = scopeOf (stmtAt 27))
  (hp : st.places = plc ks) (hd : (ks.map (·.1)).Nodup) (hn : ns.Nodup) (hm : ∀ i ∈ ns, i ∈ ks.map (·.1)) (hl : ks.length ≤ 1000) (hq : Q .none (st.setP (plc (ks.map (shk ns m))))) :
  TriS W c (bodyOf (stmtAt 27)) [("places", .dict), ("numbers", .fl (idv ns)), ("many", .int m)] st (LeaveQ st.lists.length Q) := by
  refine TriS_cons ?_
  refine TriX_for ok (by walk_at "ov side") (by intro v; rfl) ?_
  walk_at "ovs"
  refine ⟨_, .inl rfl, ?_⟩
  exact shift_loop wk ok hc ns ks st _ _ _ _ _ rfl (.inl rfl) hp hd hn hm hl rfl hq
theorem fn_shift (wk : W.Ok) (D : Defd W "_law_shifted" 27) : Fn W 0 "_law_shifted" shiftS :=
  Fn.mk D fun f hf => FnOK.of_body (ns := ["places", "numbers", "many"]) hf (fun _ _ _ _ _ => args3 fun _ _ _ => rfl) (by decide) (by decide) (by rintro xs st Q ⟨ns, m, ks, rfl, -⟩; rfl)
    (by rintro c st xs Q ok hc ⟨ns, m, ks, rfl, h1, h2, h3, h4, h5, h6⟩; exact shift_body wk ok hc h1 h2 h3 h4 h5 h6) (by decide) rfl rfl rfl
end
end
-- == M28
section
open PySem PySem.W PySem.Calls PyProof.Rows
set_option linter.unusedVariables false
set_option linter.unusedSimpArgs false
set_option maxRecDepth 100000
set_option maxHeartbeats 4000000
section
variable {W : Wc} {c : Fc} {ρ : Env0} {st : St}

theorem wl2_set0 {L : List (List V)} {a b a' : List V} : (st.wl (L ++ [a, b])).setL L.length a' = st.wl (L ++ [a', b]) := by
  unfold St.setL St.wl; simp
theorem wl2_set1 {L : List (List V)} {a b b' : List V} : (st.wl (L ++ [a, b])).setL (L.length + 1) b' = st.wl (L ++ [a, b']) := by
  unfold St.setL St.wl; simp
theorem wl2_get0 {L : List (List V)} {a b : List V} : (st.wl (L ++ [a, b])).lists[L.length]? = some a := by simp [St.wl]
theorem wl2_get1 {L : List (List V)} {a b : List V} : (st.wl (L ++ [a, b])).lists[L.length + 1]? = some b := by simp [St.wl]
theorem addL2 {a b : List V} : (st.addL a).addL b = st.wl (st.lists ++ [a, b]) := by unfold St.addL St.wl; simp
theorem addL_len {a : List V} : (st.addL a).lists.length = st.lists.length + 1 := by simp [St.addL]

theorem eq_nil_or_snoc {α : Type} (l : List α) : l = [] ∨ ∃ L b, l = L ++ [b] := by
  rcases List.eq_nil_or_concat l with h | ⟨L, b, h⟩
  · exact .inl h
  · exact .inr ⟨L, b, by rw [h, List.concat_eq_append]⟩
noncomputable def wv (ts : List T) : List V := ts.map fun t => ov t.top
noncomputable def idsOf (ts : List T) : List Nat := (ts.map T.ids).flatten
inductive belowS (xs : List V) (st : St) (Q : V → St → Prop) : Prop
  | mk : ∀ p t, (xs = [ov t.top]) → (Rep st p t) → (t.ids.length ≤ 900) → (∀ ns : List Nat, ns.Perm t.ids → Q (.fl (idv ns)) st) → belowS xs st Q
inductive BLW (st : St) (ns : List Nat) (m : Nat) (ρ : Env0) (s1 : St) : Prop
  | mk : ∀ fs ts, ρ = ([("found", .list st.lists.length), ("waiting", .list (st.lists.length + 1))] : Env0) → s1 = st.wl (st.lists ++ [idv fs, wv ts]) → (fs ++ idsOf ts).Perm ns → (∀ t' ∈ ts, ∃ p', Rep st p' t') → ts.length ≤ fs.length + 1 → m = 2 * (idsOf ts).length + ts.length → BLW st ns m ρ s1
theorem below_body {p : Option Nat} {t : T} {Q : V → St → Prop} (wk : W.Ok) (ok : c.Ok W 0) (hc : c.cs = scopeOf (stmtAt 26))
  (h : Rep st p t) (hl : t.ids.length ≤ 900) (hq : ∀ ns : List Nat, ns.Perm t.ids → Q (.fl (idv ns)) st) :
  TriS W c (bodyOf (stmtAt 26)) [("node", ov t.top)] st (LeaveQ st.lists.length Q) := by
  refine TriS_cons ?_
  refine TriX_swap (names := ["found", "waiting"]) ok (by rw [hc]; decide) (by rw [env_of hc]; rfl) (by rw [env_of hc]; rfl) ?_
  walk_at "ovs"
  refine TriE_list (TriEs_nil ⟨⟨by decide, rfl⟩, ?_⟩)
  walk_at "ovs"
  refine TriE_list ?_
  walk_at "ovs"
  refine ⟨⟨by simp, by simp [nls, nl_ov]⟩, ?_⟩
  refine TriEs_nil ⟨by simp, _, rfl, rfl, ?_⟩
  rw [addL2, addL_len]
  refine TriS_cons ?_
  refine TriX_while (BLW st t.ids)
    ⟨_, _, Sub.cons rfl (Sub.cons rfl Sub.nil), [], [t], rfl, rfl, by simp [idsOf], fun t' ht => by rw [List.mem_singleton.mp ht]; exact ⟨p, h⟩, by simp, rfl⟩ ?_
  rintro m ρ s1 ⟨fs, ts, rfl, rfl, h1, h2, h3, rfl⟩
  have hfl : fs.length ≤ 900 := by
    have := h1.length_eq
    simp at this; omega
  refine TriT_lcmp ok rfl ?_
  walk_at "ovs"
  refine TriE_listF (TriEs_nil ⟨by simp, _, _, wl2_get1, rfl, .inl ⟨rfl, rfl, ?_⟩⟩)
  walk_at "ovs"
  apply if_nb <;> intro g
  · rcases eq_nil_or_snoc ts with rfl | ⟨ts', t', rfl⟩
    · cases g
    obtain ⟨p', hp'⟩ := h2 t' (by simp)
    have hts : ts'.length ≤ 901 := by simp at h3; omega
    have ets : wv (ts' ++ [t']) = wv ts' ++ [ov t'.top] := by simp [wv]
    walk_at "ovs"
    refine TriE_pop (by rfl) ?_
    walk_at "ovs"
    refine ⟨_, wv ts', ov t'.top, rfl, by rw [← ets]; exact wl2_get1, by simp [wv]; omega, ?_⟩
    rw [wl2_set1]
    walk_at "ovs"
    rcases t' with _ | ⟨l, d, r⟩
    · apply if_ndec <;> intro g2
      · exact absurd rfl g2
      walk_at "ovs"
      refine ⟨2 * (idsOf ts').length + ts'.length, _, ?_, Sub.cons rfl (Sub.cons rfl Sub.nil), fs, ts', rfl, rfl, ?_, fun x hx => h2 x (by simp [hx]), ?_, rfl⟩
      · simp [idsOf, T.ids, T.keys]
      · simpa [idsOf, T.ids, T.keys] using h1
      · simp at h3; omega
    · apply if_ndec <;> intro g2
      rotate_left
      · cases g2
      obtain ⟨ha, hl', hr'⟩ := hp'
      have hnum : ∀ x, (st.wl x).num d.i = (d.i : Int) := fun x => ha.num
      have hlf : ∀ x, (st.wl x).lf d.i = l.top := fun x => ha.lf
      have hrt : ∀ x, (st.wl x).rt d.i = r.top := fun x => ha.rt
      walk_at "ovs"
      refine TriE_append (by rfl) (by rfl) ?_
      walk_at "ovs"
      refine ⟨_, _, rfl, wl2_get0, ?_⟩
      walk_at "ovs"
      refine ⟨_, _, rfl, wl2_get0, rfl, by simp [idv]; omega, ?_⟩
      rw [hnum, wl2_set0]
      walk_at "ovs"
      refine TriE_extend (by rfl) (by rfl) ?_
      walk_at "ovs"
      refine ⟨_, _, rfl, wl2_get1, TriE_listF ?_⟩
      walk_at "ovs"
      refine ⟨_, _, rfl, by simp [nls, nl_ov], by simp, by simp, wl2_get1, by simp [wv]; omega, ?_⟩
      rw [hlf, hrt, wl2_set1]
      walk_at "ovs"
      refine ⟨2 * (idsOf (ts' ++ [l, r])).length + (ts' ++ [l, r]).length, _, ?_, Sub.cons rfl (Sub.cons rfl Sub.nil), fs ++ [d.i], ts' ++ [l, r], rfl, ?_, ?_, fun x hx => ?_, ?_, rfl⟩
      · simp [idsOf, T.ids, T.keys]; omega
      · simp [idv, wv]
      · refine List.Perm.trans ?_ h1
        rw [List.perm_iff_count]
        intro x
        simp only [idsOf, T.ids, T.keys, List.map_append, List.flatten_append, List.map_cons, List.map_nil, List.flatten_cons, List.flatten_nil, List.append_nil, List.append_assoc, D.key, List.count_append, List.count_cons, List.count_nil]
        omega
      · simp only [List.mem_append, List.mem_cons, List.not_mem_nil, or_false] at hx
        rcases hx with hx | rfl | rfl
        · exact h2 x (by simp [hx])
        · exact ⟨_, hl'⟩
        · exact ⟨_, hr'⟩
      · simp at h3 ⊢; omega
  · have e0 : ts = [] := by
      cases ts with
      | nil => rfl
      | cons a b => cases g
    subst e0
    walk_at "ovs"
    refine ⟨⟨Nat.le_refl _, by simp [St.wl]⟩, ?_⟩
    show Q (.fl ((st.wl (st.lists ++ [idv fs, wv []])).lists.getD st.lists.length [])) _
    rw [leave_wl, List.getD_eq_getElem?_getD, wl2_get0]
    exact hq fs (by simpa [idsOf] using h1)
theorem fn_below (wk : W.Ok) (D : Defd W "_law_below" 26) : Fn W 0 "_law_below" belowS :=
  Fn.mk D fun f hf => FnOK.of_body (ns := ["node"]) hf (fun _ _ _ _ _ => args1 fun _ => rfl) (by decide) (by decide) (by rintro xs st Q ⟨p, t, rfl, -⟩; rfl)
    (by rintro c st xs Q ok hc ⟨p, t, rfl, h1, h2, h3⟩; exact below_body wk ok hc h1 h2 h3) (by decide) rfl rfl rfl
end
end
-- == P8
section
set_option linter.unusedVariables false

noncomputable def stk : C → List Nat
  | [] => []
  | .L d r :: c => stk c ++ [d.i]
  | .R l d :: c => stk c
noncomputable def todo : C → List Nat
  | [] => []
  | .L d r :: c => r.ids ++ todo c
  | .R l d :: c => todo c
theorem lefts_app {a b : C} : lefts (a ++ b) = lefts b ++ lefts a := by
  induction a with
  | nil => simp [lefts]
  | cons f a ih => cases f <;> simp [lefts, ih]
theorem rights_app {a b : C} : rights (a ++ b) = rights a ++ rights b := by
  induction a with
  | nil => simp [rights]
  | cons f a ih => cases f <;> simp [rights, ih]
theorem stk_app {a b : C} : stk (a ++ b) = stk b ++ stk a := by
  induction a with
  | nil => simp [stk]
  | cons f a ih => cases f <;> simp [stk, ih]
theorem todo_app {a b : C} : todo (a ++ b) = todo a ++ todo b := by
  induction a with
  | nil => simp [todo]
  | cons f a ih => cases f <;> simp [todo, ih]
theorem stk_nil : ∀ {c : C}, stk c = [] → rights c = [] ∧ todo c = []
  | [], _ => ⟨rfl, rfl⟩
  | .L d r :: c, h => by simp [stk] at h
  | .R l d :: c, h => stk_nil (c := c) h
theorem stk_snoc : ∀ {c : C} {xs : List Nat} {i : Nat}, stk c = xs ++ [i] → ∃ k1 d r c', c = k1 ++ .L d r :: c' ∧ d.i = i ∧ stk c' = xs ∧ stk k1 = []
  | [], xs, i, h => by simp [stk] at h
  | .L d r :: c, xs, i, h => by
    simp only [stk] at h
    obtain ⟨h1, h2⟩ := List.append_inj' h rfl
    exact ⟨[], d, r, c, rfl, by simpa using h2, h1, rfl⟩
  | .R l d :: c, xs, i, h => by
    obtain ⟨k1, d', r, c', e1, e2, e3, e4⟩ := stk_snoc (c := c) h
    exact ⟨.R l d :: k1, d', r, c', by rw [e1]; rfl, e2, e3, e4⟩
theorem stk_len : ∀ {c : C}, (stk c).length ≤ c.length
  | [] => Nat.le_refl _
  | .L d r :: c => by simp only [stk, List.length_append, List.length_cons, List.length_nil]; have := stk_len (c := c); omega
  | .R l d :: c => by simp only [stk, List.length_cons]; have := stk_len (c := c); omega
theorem keys_of_rights {k : C} {t : T} (h : stk k = []) : (plug k t).keys = lefts k ++ t.keys := by
  rw [plug_keys]; simp [keysAt, (stk_nil h).1]
theorem top_ids {t : T} {j : Nat} (h : j ∉ t.ids) : t.top ≠ some j := fun e => h (top_mem e)

/-- the walk in order, the offsets handed down on the way -/
structure AN (st : St) (c : C) (t : T) (W0 : T) : Prop where
  z : Z st c t
  sh : sh st.off 0 (plug c t) = W0
  zero : ∀ j, j ∉ t.ids → j ∉ todo c → st.off j = 0
theorem AN.down {st : St} {c : C} {l r : T} {d : D} {W0 : T} (h : AN st c (.node l d r) W0) : AN (HD st d.i) (.L (d.sh (st.off d.i)) r :: c) l W0 := by
  have hz := HD_Z h.z
  have ho := HD_off h.z
  have dj := dj_iff.mp h.z.nd
  obtain ⟨n1, n2, n3, n4, n5⟩ := nd_node dj.ht
  refine ⟨Z.put_iff.mpr hz.1, ?_, fun j h1 h2 => ?_⟩
  · rw [← h.sh]
    show Ov.sh _ 0 (plug c (.node l (d.sh (st.off d.i)) r)) = _
    refine sh_plug (fun a => ?_) (fun j hj => ?_) 0
    · simp only [Ov.sh]
      have e0 : (HD st d.i).off d.i = 0 := by rw [ho]; simp
      have el : Ov.sh (HD st d.i).off a l = Ov.sh st.off (a + st.off d.i) l := by
        refine sh_top n1 (fun j hj => ?_) fun j hj hn => ?_
        · rw [ho, if_neg (fun (e : j = d.i) => n3 (e ▸ top_mem hj)), if_pos (.inl hj)]
        · rw [ho, if_neg (fun (e : j = d.i) => n3 (e ▸ hj)), if_neg]
          rintro (e | e)
          · exact hn e
          · exact n5 j hj (top_mem e)
      have er : Ov.sh (HD st d.i).off a r = Ov.sh st.off (a + st.off d.i) r := by
        refine sh_top n2 (fun j hj => ?_) fun j hj hn => ?_
        · rw [ho, if_neg (fun (e : j = d.i) => n4 (e ▸ top_mem hj)), if_pos (.inr hj)]
        · rw [ho, if_neg (fun (e : j = d.i) => n4 (e ▸ hj)), if_neg]
          rintro (e | e)
          · exact n5 j (top_mem e) hj
          · exact hn e
      have ed : (d.sh (st.off d.i)).sh a = d.sh (a + st.off d.i) := by
        have e3 : ∀ y : Int, y + st.off d.i + a = y + (a + st.off d.i) := fun y => by omega
        simp only [D.sh, e3]
      show T.node (Ov.sh _ (a + (HD st d.i).off d.i) l) ((d.sh (st.off d.i)).sh (a + (HD st d.i).off d.i)) (Ov.sh _ (a + (HD st d.i).off d.i) r) = _
      rw [e0, Int.add_zero, el, er, ed]
    · have hn : j ∉ (T.node l d r).ids := fun e => dj.d j e hj
      rw [ho, if_neg (fun (e : j = d.i) => hn (e ▸ mem_ids_node.mpr (.inr (.inl rfl)))), if_neg]
      rintro (e | e)
      · exact hn (mem_ids_node.mpr (.inl (top_mem e)))
      · exact hn (mem_ids_node.mpr (.inr (.inr (top_mem e))))
  · simp only [todo, List.mem_append, not_or] at h2
    rw [ho]
    split
    · rfl
    · rename_i hj
      rw [if_neg]
      · exact h.zero j (fun e => by rcases mem_ids_node.mp e with e | e | e; exact h1 e; exact hj e; exact h2.1 e) h2.2
      · rintro (e | e)
        · exact h1 (top_mem e)
        · exact h2.1 (top_mem e)
theorem AN.pop {st : St} {k1 c : C} {r : T} {d : D} {t W0 : T} (h : AN st (k1 ++ .L d r :: c) t W0) (ht : ∀ j ∈ t.ids, st.off j = 0) (hk : stk k1 = []) : AN st (.R (plug k1 t) d :: c) r W0 := by
  have hz : Z st c (.node (plug k1 t) d r) := Z.put_iff.mp (Z.plug_iff.mp h.z)
  refine ⟨Z.put_iff.mpr hz, ?_, fun j h1 h2 => ?_⟩
  · rw [← h.sh, plug_append]; rfl
  · by_cases e : j ∈ t.ids
    · exact ht j e
    · refine h.zero j e ?_
      rw [todo_app, (stk_nil hk).2]
      simp only [todo, List.nil_append, List.mem_append, not_or]
      exact ⟨h1, h2⟩
theorem pop_lefts {k1 c : C} {r : T} {d : D} {t : T} (hk : stk k1 = []) : lefts (.R (plug k1 t) d :: c) = lefts (k1 ++ .L d r :: c) ++ t.keys ++ [d.key] := by
  simp only [lefts, keys_of_rights hk, lefts_app, List.append_assoc]
theorem pop_rights {k1 c : C} {r : T} {d : D} {t : T} (hk : stk k1 = []) : rights (k1 ++ .L d r :: c) = d.key :: (r.keys ++ rights (.R (plug k1 t) d :: c)) := by
  simp only [rights, rights_app, (stk_nil hk).1, List.nil_append, List.cons_append]
theorem AN.done {st : St} {c : C} {W0 : T} (h : AN st c .nil W0) (hs : stk c = []) : Z st [] W0 ∧ (∀ j, st.off j = 0) ∧ (lefts c).map (·.1) = W0.ids := by
  have z : ∀ j, st.off j = 0 := fun j => h.zero j (by simp [T.ids, T.keys]) (by rw [(stk_nil hs).2]; simp)
  have e : plug c .nil = W0 := by rw [← h.sh, sh_zero fun j _ => z j]
  refine ⟨e ▸ Z.all_iff.mp h.z, z, ?_⟩
  rw [← e, T.ids, keys_of_rights hs]; simp [T.keys]
theorem keys_e_le {t : T} (h : Lm t) {x : Int} (hx : ∀ M, t.mo = some M → M < x) : ∀ k ∈ t.keys, k.2.2 < x := by
  intro k hk
  cases hm : t.mo with
  | none => cases t with
    | nil => cases hk
    | node _ _ _ => cases hm
  | some M => exact Int.lt_of_le_of_lt ((Lm_max h hm).2 k hk) (hx M hm)
end
-- == P9
section
set_option linter.unusedVariables false
theorem sorted_uniq {α : Type} {f : α → Int} : ∀ {l1 l2 : List α}, l1.Perm l2 → l1.Pairwise (fun a b => f a < f b) → l2.Pairwise (fun a b => f a < f b) → l1 = l2
  | [], l2, h, _, _ => (List.Perm.nil_eq h)
  | a :: r, [], h, _, _ => by have := h.length_eq; simp at this
  | a :: r, b :: q, h, h1, h2 => by
    rw [List.pairwise_cons] at h1 h2
    have e : a = b := by
      have m1 : a ∈ b :: q := h.mem_iff.mp (.head _)
      have m2 : b ∈ a :: r := h.mem_iff.mpr (.head _)
      rcases List.mem_cons.mp m1 with m1 | m1
      · exact m1
      · rcases List.mem_cons.mp m2 with m2 | m2
        · exact m2.symm
        · have a1 := h2.1 a m1
          have a2 := h1.1 b m2
          omega
    subst e
    rw [sorted_uniq (List.Perm.cons_inv h) h1.2 h2.2]
theorem sorted_uniq_le : ∀ {l1 l2 : List Int}, l1.Perm l2 → l1.Pairwise (· ≤ ·) → l2.Pairwise (· ≤ ·) → l1 = l2
  | [], l2, h, _, _ => (List.Perm.nil_eq h)
  | a :: r, [], h, _, _ => by have := h.length_eq; simp at this
  | a :: r, b :: q, h, h1, h2 => by
    rw [List.pairwise_cons] at h1 h2
    have e : a = b := by
      have m1 : a ∈ b :: q := h.mem_iff.mp (.head _)
      have m2 : b ∈ a :: r := h.mem_iff.mpr (.head _)
      rcases List.mem_cons.mp m1 with m1 | m1
      · exact m1
      · rcases List.mem_cons.mp m2 with m2 | m2
        · exact m2.symm
        · have a1 := h2.1 a m1
          have a2 := h1.1 b m2
          omega
    subst e
    rw [sorted_uniq_le (List.Perm.cons_inv h) h1.2 h2.2]
theorem lt_of_le_nodup {l : List Int} (h : l.Pairwise (· ≤ ·)) (hn : l.Nodup) : l.Pairwise (· < ·) := by
  induction l with
  | nil => exact .nil
  | cons a r ih =>
    rw [List.pairwise_cons] at h ⊢
    rw [List.nodup_cons] at hn
    exact ⟨fun b hb => by have h1 := h.1 b hb; have h2 : a ≠ b := fun e => hn.1 (e ▸ hb); omega, ih h.2 hn.2⟩
theorem Rep.vals {st : St} : ∀ {t : T} {p : Option Nat}, Rep st p t → ∀ k ∈ t.keys, st.num k.1 = (k.1 : Int) ∧ st.bg k.1 = k.2.1 ∧ st.en k.1 = k.2.2
  | .nil, _, _, k, hk => by cases hk
  | .node l d r, p, h, k, hk => by
    simp only [T.keys, List.mem_append, List.mem_cons] at hk
    rcases hk with hk | rfl | hk
    · exact h.2.1.vals k hk
    · exact ⟨h.1.num, h.1.bg, h.1.en⟩
    · exact h.2.2.vals k hk
end
-- == P10
section
set_option linter.unusedVariables false

theorem sh_keys_plug {O : Nat → Int} {k : C} : ∀ {t : T}, (∀ j ∈ cids k, O j = 0) → (sh O 0 (plug k t)).keys = lefts k ++ (sh O 0 t).keys ++ rights k := by
  induction k with
  | nil => intro t _; simp [plug, lefts, rights]
  | cons f k ih =>
    intro t h
    cases f with
    | L d r =>
      have h0 : O d.i = 0 := h _ (mem_cids_L.mpr (.inl rfl))
      have hr : sh O 0 r = r := sh_zero fun j hj => h j (mem_cids_L.mpr (.inr (.inl hj)))
      have := ih (t := .node t d r) fun j hj => h j (mem_cids_L.mpr (.inr (.inr hj)))
      show (sh O 0 (plug k (.node t d r))).keys = _
      rw [this]
      simp only [sh, h0, Int.add_zero, T.keys, hr, lefts, rights]
      have : (d.sh 0).key = d.key := by simp [D.sh, D.key]
      rw [this]; simp
    | R l d =>
      have h0 : O d.i = 0 := h _ (mem_cids_R.mpr (.inl rfl))
      have hr : sh O 0 l = l := sh_zero fun j hj => h j (mem_cids_R.mpr (.inr (.inl hj)))
      have := ih (t := .node l d t) fun j hj => h j (mem_cids_R.mpr (.inr (.inr hj)))
      show (sh O 0 (plug k (.node l d t))).keys = _
      rw [this]
      simp only [sh, h0, Int.add_zero, T.keys, hr, lefts, rights]
      have : (d.sh 0).key = d.key := by simp [D.sh, D.key]
      rw [this]; simp
/-- all shifted by a: no offset within -/
theorem sh_all {O : Nat → Int} : ∀ {t : T} {a : Int}, (∀ j ∈ t.ids, O j = 0) → (sh O a t).keys = t.keys.map fun k => (k.1, k.2.1 + a, k.2.2 + a)
  | .nil, _, _ => rfl
  | .node l d r, a, h => by
    have h0 : O d.i = 0 := h _ (mem_ids_node.mpr (.inr (.inl rfl)))
    simp only [sh, h0, Int.add_zero, T.keys, List.map_append, List.map_cons]
    rw [sh_all fun j hj => h j (mem_ids_node.mpr (.inl hj)), sh_all fun j hj => h j (mem_ids_node.mpr (.inr (.inr hj)))]
    rfl
theorem sh_topOnly {O : Nat → Int} {t : T} {i : Nat} {m : Int} (hn : t.ids.Nodup) (ht : t.top = some i) (hi : O i = m) (h : ∀ j, j ≠ i → O j = 0) : (sh O 0 t).keys = t.keys.map fun k => (k.1, k.2.1 + m, k.2.2 + m) := by
  cases t with
  | nil => cases ht
  | node l d r =>
    cases ht
    obtain ⟨n1, n2, n3, n4, n5⟩ := nd_node hn
    simp only [sh, hi, Int.zero_add, T.keys, List.map_append, List.map_cons]
    rw [sh_all fun j hj => h j (fun e => n3 (e ▸ hj)), sh_all fun j hj => h j (fun e => n4 (e ▸ hj))]
    rfl
theorem map_shk_in {ns : List Nat} {m : Int} {l : List Kt} (h : ∀ k ∈ l, k.1 ∈ ns) : l.map (shk ns m) = l.map fun k => (k.1, k.2.1 + m, k.2.2 + m) :=
  List.map_congr_left fun k hk => by unfold shk; rw [if_pos (h k hk)]
theorem map_shk_out {ns : List Nat} {m : Int} {l : List Kt} (h : ∀ k ∈ l, k.1 ∉ ns) : l.map (shk ns m) = l := by
  have : l.map (shk ns m) = l.map id := List.map_congr_left fun k hk => by unfold shk; rw [if_neg (h k hk)]; rfl
  rw [this, List.map_id]
/-- the keys of a tree where one part's top bears an offset -/
theorem sh_one {O : Nat → Int} {k : C} {t : T} {i : Nat} {m : Int} {ns : List Nat} (dj : Dj k t) (ht : t.top = some i) (hi : O i = m) (h : ∀ j, j ≠ i → O j = 0) (hns : ns.Perm t.ids) : (sh O 0 (plug k t)).keys = (plug k t).keys.map (shk ns m) := by
  have him : i ∈ t.ids := top_mem ht
  rw [sh_keys_plug fun j hj => h j fun e => dj.d i him (e ▸ hj), sh_topOnly dj.ht ht hi h, plug_keys, keysAt, List.map_append, List.map_append]
  have out : ∀ l : List Kt, (∀ x ∈ l, x.1 ∈ cids k) → l.map (shk ns m) = l := fun l hl => map_shk_out fun x hx hm => dj.d _ (hns.mem_iff.mp hm) (hl x hx)
  rw [out (lefts k) fun x hx => by simp only [cids, List.map_append, List.mem_append]; exact .inl (List.mem_map_of_mem hx), out (rights k) fun x hx => by simp only [cids, List.map_append, List.mem_append]; exact .inr (List.mem_map_of_mem hx),
    map_shk_in fun x hx => hns.mem_iff.mpr (List.mem_map_of_mem (f := (·.1)) hx)]
theorem LmO_top {O : Nat → Int} {t : T} {i : Nat} (hn : t.ids.Nodup) (ht : t.top = some i) (h : ∀ j, j ≠ i → O j = 0) : LmO O t ↔ Lm t := by
  cases t with
  | nil => cases ht
  | node l d r =>
    cases ht
    obtain ⟨n1, n2, n3, n4, n5⟩ := nd_node hn
    have hl : ∀ j ∈ l.ids, O j = 0 := fun j hj => h j fun e => n3 (e ▸ hj)
    have hr : ∀ j ∈ r.ids, O j = 0 := fun j hj => h j fun e => n4 (e ▸ hj)
    simp only [LmO, Lm, moO_zero hl, moO_zero hr, LmO_zero hl, LmO_zero hr]
theorem SK_shift {A B : List Kt} {m : Int} (h : SK (A ++ B)) (hm : 0 ≤ m) : SK (A ++ B.map fun k => (k.1, k.2.1 + m, k.2.2 + m)) := by
  unfold SK at *
  rw [List.pairwise_append] at h ⊢
  refine ⟨h.1, ?_, fun a ha b hb => ?_⟩
  · rw [List.pairwise_map]
    exact h.2.1.imp fun {a b} hab => by show a.2.1 + m ≤ b.2.1 + m; omega
  · obtain ⟨k, hk, rfl⟩ := List.mem_map.mp hb
    have := h.2.2 a ha k hk
    show a.2.1 ≤ k.2.1 + m
    omega
end
-- == M29
section
open PySem PySem.W PySem.Calls PyProof.Rows
set_option linter.unusedVariables false
set_option linter.unusedSimpArgs false
set_option maxRecDepth 100000
set_option maxHeartbeats 4000000
section
variable {W : Wc} {c : Fc} {ρ : Env0} {st : St}

theorem l2_set0 {L : List (List V)} {a b a' : List V} (h : st.lists = L ++ [a, b]) : (st.setL L.length a').lists = L ++ [a', b] := by
  unfold St.setL; simp [h]
theorem l2_set1 {L : List (List V)} {a b b' : List V} (h : st.lists = L ++ [a, b]) : (st.setL (L.length + 1) b').lists = L ++ [a, b'] := by
  unfold St.setL; simp [h]
theorem l2_get0 {L : List (List V)} {a b : List V} (h : st.lists = L ++ [a, b]) : st.lists[L.length]? = some a := by simp [h]
theorem l2_get1 {L : List (List V)} {a b : List V} (h : st.lists = L ++ [a, b]) : st.lists[L.length + 1]? = some b := by simp [h]
theorem Z.lists {st' : St} {k : C} {t : T} (h : Z st k t) (e : st' = { st with lists := st'.lists }) : Z st' k t := by
  rw [e]; exact h.wl
theorem AN.setL {k : C} {t w : T} {i : Nat} {xs : List V} (h : AN st k t w) : AN (st.setL i xs) k t w := ⟨h.z.wl, h.sh, h.zero⟩
theorem AN.addL {k : C} {t w : T} {xs : List V} (h : AN st k t w) : AN (st.addL xs) k t w := ⟨h.z.wl, h.sh, h.zero⟩
noncomputable def ndv (ns : List Nat) : List V := ns.map V.node
theorem nls_ndv {ns : List Nat} : nls (ndv ns) = true := by
  rw [nls_mem]; intro x hx
  obtain ⟨i, -, rfl⟩ := List.mem_map.mp hx
  rfl

noncomputable def Lk (c : C) : List Nat := (lefts c).map (·.1)
inductive allS (xs : List V) (st : St) (Q : V → St → Prop) : Prop
  | mk : ∀ t, (xs = [.tree]) → (Z st [] t) → ((∀ j, j ∉ t.ids → st.off j = 0)) → (st.nn ≤ 900) → (∀ st', Z st' [] (sh st.off 0 t) → (∀ j, st'.off j = 0) → Kh st st' → Q (.fl (ndv t.ids)) st') → allS xs st Q
structure ANs (s0 s1 : St) (w : T) (k : C) (t : T) : Prop where
  an : AN s1 k t w
  nn : s1.nn = s0.nn
  cnt : s1.cnt = s0.cnt
  places : s1.places = s0.places
  lists : s1.lists = s0.lists ++ [ndv (Lk k), ndv (stk k)]
theorem ANs.len {s0 s1 : St} {w : T} {k : C} {t : T} (h : ANs s0 s1 w k t) (hn : s0.nn ≤ 900) : (stk k).length ≤ 900 ∧ (Lk k).length ≤ 900 := by
  have h1 := h.an.z.len
  rw [h.nn] at h1
  have h2 := C_len (k := k) (t := t)
  have h3 := stk_len (c := k)
  refine ⟨by omega, ?_⟩
  have : (Lk k).length ≤ (keysAt k t).length := by simp [Lk, keysAt] <;> omega
  omega
noncomputable def wBody : Option Stmt → List Stmt
  | some (.While _ b _ _) => b
  | _ => []
theorem ANs.set0 {s0 s1 : St} {w : T} {k : C} {t : T} {F : List V} (h : ANs s0 s1 w k t) : True := trivial
inductive AllW (st : St) (w : T) (k : C) (t : T) (m : Nat) (ρ : Env0) (s2 : St) : Prop
  | mk : ∀ k' t', ρ = ([("tree", .tree), ("found", .list st.lists.length), ("waiting", .list (st.lists.length + 1)), ("node", ov t'.top)] : Env0) → ANs st s2 w k' t' → m = t'.size → (t'.top = none → stk k' ≠ []) → t'.keys.length + (rights k').length = t.keys.length + (rights k).length → AllW st w k t m ρ s2
inductive AllV (st : St) (w : T) (m : Nat) (ρ : Env0) (s1 : St) : Prop
  | mk : ∀ k t', ρ = ([("tree", .tree), ("found", .list st.lists.length), ("waiting", .list (st.lists.length + 1)), ("node", ov t'.top)] : Env0) → ANs st s1 w k t' → m = t'.keys.length + (rights k).length → AllV st w m ρ s1
theorem all_turn {s1 : St} {w t : T} {k : C} {Qf : FV → Env0 → St → Prop} (wk : W.Ok) (ok : c.Ok W 1) (hc : c.cs = scopeOf (stmtAt 21)) (H1 : Fn W 0 "hand_down" handDownS)
  (hn : st.nn ≤ 900) (hA : ANs st s1 w k t) (hne : t.top = none → stk k ≠ [])
  (hQ : ∀ k2 t2 s2 ρ2, Sub [("tree", .tree), ("found", .list st.lists.length), ("waiting", .list (st.lists.length + 1)), ("node", ov t2.top)] ρ2 → ANs st s2 w k2 t2 → t2.keys.length + (rights k2).length < t.keys.length + (rights k).length → Qf .next ρ2 s2) :
  TriS W c (wBody (bodyOf (stmtAt 21))[3]?) [("tree", .tree), ("found", .list st.lists.length), ("waiting", .list (st.lists.length + 1)), ("node", ov t.top)] s1 Qf := by
  refine TriS_cons ?_
  refine TriX_while (AllW st w k t)
    ⟨_, _, Sub.refl, k, t, rfl, hA, rfl, hne, rfl⟩ ?_
  rintro m ρ s2 ⟨k', t', rfl, hB, rfl, hne', hm⟩
  obtain ⟨hs1, hs2⟩ := hB.len hn
  walk_at "ovs"
  apply if_ndec <;> intro g1
  · rcases t' with _ | ⟨l, d, r⟩
    · exact absurd rfl g1
    have hd := hB.an.down
    have hz := HD_Z hB.an.z
    have hlf : (HD s2 d.i).lf d.i = l.top := (Z.put_iff.mpr hz.1 : Z _ (.L (d.sh (s2.off d.i)) r :: k') l).rc.1.lf
    have hl2 : (HD s2 d.i).lists = st.lists ++ [ndv (Lk k'), ndv (stk k')] := hz.2.lists.trans hB.lists
    have hnn := hz.2.nn.trans hB.nn
    have hcn := hz.2.cnt.trans hB.cnt
    have hpl := hz.2.places.trans hB.places
    walk_at "ovs"
    refine hd_i (i := d.i) (by walk_at "ov ptr") ?_
    generalize HD s2 d.i = s3 at hd hlf hl2 hnn hcn hpl
    walk_at "ovs"
    refine TriE_append (by rfl) (by rfl) ?_
    walk_at "ovs"
    refine ⟨_, _, rfl, l2_get1 hl2, ?_⟩
    walk_at "ovs"
    refine ⟨_, _, rfl, l2_get1 hl2, rfl, by simp [ndv]; omega, ?_⟩
    walk_at "ovs"
    simp only [setL_lf]
    rw [show s3.lf d.i = l.top from hlf]
    refine ⟨l.size, _, by simp [T.size]; omega, Sub.refl, .L (d.sh (s2.off d.i)) r :: k', l, rfl, ⟨hd.setL, hnn, hcn, hpl, ?_⟩, rfl, fun _ => by simp [stk], ?_⟩
    · rw [l2_set1 hl2]; simp [Lk, lefts, stk, ndv, D.sh, T.top, ov]
    · rw [← hm]; simp [rights, T.keys]; omega
  · rcases t' with _ | ⟨l, d, r⟩
    rotate_left
    · cases g1
    rcases eq_nil_or_snoc (stk k') with e | ⟨xs, i, e⟩
    · exact absurd e (hne' rfl)
    obtain ⟨k1, d, r, k2, rfl, rfl, e3, e4⟩ := stk_snoc e
    have hp := hB.an.pop (fun j hj => by cases hj) e4
    have hrt : s2.rt d.i = r.top := (Z.plug_iff.mp hB.an.z).rc.1.rt
    have hl2 := hB.lists
    rw [e] at hl2
    have exs : ndv (xs ++ [d.i]) = ndv xs ++ [V.node d.i] := by simp [ndv]
    rw [exs] at hl2
    rw [e] at hs1
    have hl3 := l2_set1 (b' := ndv xs) hl2
    have hl4 := l2_set0 (a' := ndv (Lk (k1 ++ .L d r :: k2)) ++ [V.node d.i]) hl3
    walk_at "ovs"
    refine TriE_pop (by rfl) ?_
    walk_at "ovs"
    refine ⟨_, _, _, rfl, l2_get1 hl2, by simp [ndv] at hs1 ⊢; omega, ?_⟩
    walk_at "ovs"
    refine TriE_append (by rfl) (by rfl) ?_
    walk_at "ovs"
    refine ⟨_, _, rfl, l2_get0 hl3, ?_⟩
    walk_at "ovs"
    refine ⟨_, _, rfl, l2_get0 hl3, rfl, by simp [ndv]; omega, ?_⟩
    walk_at "ovs"
    simp only [setL_rt]
    rw [hrt]
    refine hQ (.R (plug k1 .nil) d :: k2) r _ _ Sub.refl ⟨hp.setL.setL, hB.nn, hB.cnt, hB.places, ?_⟩ ?_
    · rw [hl4]
      rw [show stk (.R (plug k1 .nil) d :: k2) = xs from e3]
      unfold Lk
      rw [pop_lefts (r := r) e4]
      simp [ndv, T.keys, D.key]
    · rw [← hm, pop_rights (t := .nil) e4]
      simp [T.keys] <;> omega
theorem all_body {t : T} {Q : V → St → Prop} (wk : W.Ok) (ok : c.Ok W 1) (hc : c.cs = scopeOf (stmtAt 21)) (H1 : Fn W 0 "hand_down" handDownS) (bl : nsIn W.K mainGlobals "len" = some none)
  (h : Z st [] t) (hz : ∀ j, j ∉ t.ids → st.off j = 0) (hn : st.nn ≤ 900)
  (hq : ∀ st', Z st' [] (sh st.off 0 t) → (∀ j, st'.off j = 0) → Kh st st' → Q (.fl (ndv t.ids)) st') :
  TriS W c (bodyOf (stmtAt 21)) [("tree", .tree)] st (LeaveQ st.lists.length Q) := by
  have hroot : ((st.addL []).addL []).root = t.top := h.rc
  have hi : ANs st ((st.addL []).addL []) (sh st.off 0 t) [] t := ⟨(AN.mk h rfl fun j h1 _ => hz j h1).addL.addL, rfl, rfl, rfl, by simp [St.addL, Lk, lefts, stk, ndv]⟩
  refine TriS_cons ?_
  walk_at "ovs"
  refine TriE_list (TriEs_nil ⟨⟨by decide, rfl⟩, ?_⟩)
  walk_at "ovs"
  refine TriE_list (TriEs_nil ⟨⟨by decide, rfl⟩, ?_⟩)
  walk_at "ovs"
  rw [hroot, addL_len]
  generalize (st.addL []).addL [] = sA at hi
  clear hroot
  refine TriX_while (AllV st (sh st.off 0 t))
    ⟨_, _, Sub.refl, [], t, rfl, hi, rfl⟩ ?_
  rintro m ρ s1 ⟨k, t', rfl, hA, rfl⟩
  have turn : (t'.top = none → stk k ≠ []) → ∀ Qf : FV → Env0 → St → Prop, (∀ k2 t2 s2 ρ2, Sub [("tree", .tree), ("found", .list st.lists.length), ("waiting", .list (st.lists.length + 1)), ("node", ov t2.top)] ρ2 → ANs st s2 (sh st.off 0 t) k2 t2 → t2.keys.length + (rights k2).length < t'.keys.length + (rights k).length → Qf .next ρ2 s2) → _ :=
    fun hne Qf hQ => all_turn (Qf := Qf) wk ok hc H1 hn hA hne hQ
  have step : ∀ k2 t2 s2 ρ2, Sub [("tree", .tree), ("found", .list st.lists.length), ("waiting", .list (st.lists.length + 1)), ("node", ov t2.top)] ρ2 → ANs st s2 (sh st.off 0 t) k2 t2 → t2.keys.length + (rights k2).length < t'.keys.length + (rights k).length →
      Next (AllV st (sh st.off 0 t)) (t'.keys.length + (rights k).length) ρ2 s2 :=
    fun k2 t2 s2 ρ2 h1 h2 h3 => ⟨_, _, h3, h1, k2, t2, rfl, h2, rfl⟩
  walk_at "ovs"
  apply if_ndec <;> intro g1
  · exact turn (fun e => absurd e g1) _ step
  · walk_at "ovs"
    refine ⟨(stk k).length, .inl ⟨_, l2_get1 hA.lists, by simp [ndv]⟩, by have := (hA.len hn).1; omega, ?_⟩
    walk_at "ov"
    refine cmpV_Gt (truthV_bool ?_)
    apply if_dec <;> intro g2
    · exact turn (fun _ e => by rw [e] at g2; simp at g2) _ step
    · rcases t' with _ | ⟨l, d, r⟩
      rotate_left
      · cases g1
      have hs : stk k = [] := by
        cases hk : stk k with
        | nil => rfl
        | cons a b => rw [hk] at g2; exact absurd (by simp only [List.length_cons]; omega) g2
      obtain ⟨d1, d2, d3⟩ := hA.an.done hs
      walk_at "ovs"
      refine ⟨⟨Nat.le_refl _, by rw [hA.lists]; simp⟩, ?_⟩
      show Q (.fl (s1.lists.getD st.lists.length [])) (leaveSt st.lists.length s1)
      rw [List.getD_eq_getElem?_getD, l2_get0 hA.lists]
      unfold Lk
      rw [d3, sh_ids]
      refine hq _ d1.wl d2 ⟨hA.nn, hA.cnt, ?_, hA.places⟩
      show s1.lists.take _ = _
      rw [hA.lists]; simp
theorem fn_all (wk : W.Ok) (D : Defd W "all_nodes_in_order" 21) (H1 : Fn W 0 "hand_down" handDownS) (bl : nsIn W.K mainGlobals "len" = some none) : Fn W 1 "all_nodes_in_order" allS :=
  Fn.mk D fun f hf => FnOK.of_body (ns := ["tree"]) hf (fun _ _ _ _ _ => args1 fun _ => rfl) (by decide) (by decide) (by rintro xs st Q ⟨t, rfl, -⟩; rfl)
    (by rintro c st xs Q ok hc ⟨t, rfl, h1, h2, h3, h4⟩; exact all_body wk ok hc H1 bl h1 h2 h3 h4) (by decide) rfl rfl rfl
end
end
-- == M30
section
open PySem PySem.W PySem.Calls PyProof.Rows
set_option linter.unusedVariables false
set_option linter.unusedSimpArgs false
set_option maxRecDepth 100000
set_option maxHeartbeats 4000000
section
variable {W : Wc} {c : Fc} {ρ : Env0} {st : St}

noncomputable def inR (lo hi : Int) (k : Kt) : Bool := decide (k.2.1 ≤ hi) && decide (lo ≤ k.2.2)
noncomputable def Fk (lo hi : Int) (c : C) : List Nat := ((lefts c).filter (inR lo hi)).map (·.1)
structure NB (st : St) (w : T) (lo hi : Int) (k : C) (t : T) (cur : Option Nat) : Prop where
  z : Z st k t
  pl : plug k t = w
  cu : cur = t.top ∨ (cur = none ∧ ∀ x ∈ t.keys, inR lo hi x = false)
theorem NB.none {w : T} {lo hi : Int} {k : C} {t : T} (h : NB st w lo hi k t .none) : ∀ x ∈ t.keys, inR lo hi x = false := by
  rcases h.cu with e | ⟨_, e⟩
  · cases t with
    | nil => intro x hx; cases hx
    | node l d r => cases e
  · exact e
theorem NB.len {w : T} {lo hi : Int} {k : C} {t : T} {cur : Option Nat} (h : NB st w lo hi k t cur) (hn : st.nn ≤ 900) : (stk k).length ≤ 900 ∧ (Fk lo hi k).length ≤ 900 := by
  have h1 := h.z.len
  have h2 := C_len (k := k) (t := t)
  have h3 := stk_len (c := k)
  refine ⟨by omega, ?_⟩
  have h4 : (Fk lo hi k).length ≤ (lefts k).length := by unfold Fk; rw [List.length_map]; exact List.length_filter_le _ _
  have : (lefts k).length ≤ (keysAt k t).length := by simp [keysAt] <;> omega
  omega
theorem NB.pop {w : T} {lo hi : Int} {k1 k2 : C} {t r : T} {d : D} (h : NB st w lo hi (k1 ++ .L d r :: k2) t .none) (hk : stk k1 = []) (so : SK w.keys) :
    NB st w lo hi (.R (plug k1 t) d :: k2) r (if d.b ≤ hi then r.top else .none) ∧ Fk lo hi (.R (plug k1 t) d :: k2) = Fk lo hi (k1 ++ .L d r :: k2) ++ (if inR lo hi d.key = true then [d.i] else []) := by
  have hz : Z st k2 (.node (plug k1 t) d r) := Z.put_iff.mp (Z.plug_iff.mp h.z)
  have hw : plug k2 (.node (plug k1 t) d r) = w := by rw [← h.pl, plug_append]; rfl
  refine ⟨⟨Z.put_iff.mpr hz, hw, ?_⟩, ?_⟩
  · by_cases e : d.b ≤ hi
    · rw [if_pos e]; exact .inl rfl
    · rw [if_neg e]
      refine .inr ⟨rfl, fun x hx => ?_⟩
      rw [← hw, plug_keys] at so
      simp only [SK, keysAt, T.keys, List.pairwise_append, List.pairwise_cons] at so
      have : d.key.2.1 ≤ x.2.1 := so.1.2.1.2.1.1 x hx
      have hb : d.key.2.1 = d.b := rfl
      unfold inR
      have : ¬ x.2.1 ≤ hi := by omega
      simp [this]
  · unfold Fk
    have e0 : t.keys.filter (inR lo hi) = [] := List.filter_eq_nil_iff.mpr (fun x hx => by simp [h.none x hx])
    rw [pop_lefts (r := r) hk, List.filter_append, List.filter_append, e0]
    rw [List.append_nil, List.map_append]
    congr 1
    by_cases e : inR lo hi d.key = true
    · rw [if_pos e, List.filter_cons_of_pos e]; rfl
    · rw [if_neg e, List.filter_cons_of_neg e]; rfl
theorem NB.down {w : T} {lo hi : Int} {k : C} {l r : T} {d : D} {cur : Option Nat} (h : NB st w lo hi k (.node l d r) cur) : NB st w lo hi (.L d r :: k) l l.top := ⟨Z.put_iff.mpr h.z, h.pl, .inl rfl⟩
theorem NB.skip {w : T} {lo hi : Int} {k : C} {l r : T} {d : D} {cur : Option Nat} (h : NB st w lo hi k (.node l d r) cur) (lm : Lm w) (hd : d.m < lo) : NB st w lo hi k (.node l d r) .none := by
  refine ⟨h.z, h.pl, .inr ⟨rfl, fun x hx => ?_⟩⟩
  have hl : Lm (.node l d r) := (Lm_unplug (by rw [h.pl]; exact lm)).1
  have := keys_e_le (x := lo) hl (fun M e => by cases e; exact hd) x hx
  unfold inR
  have : ¬ lo ≤ x.2.2 := by omega
  simp [this]

noncomputable def ρB (st : St) (lo hi : Int) (cur : Option Nat) : Env0 := [("tree", .tree), ("begin", .int lo), ("end", .int hi), ("found", .list st.lists.length), ("waiting", .list (st.lists.length + 1)), ("node", ov cur)]
noncomputable def ms (k : C) (t : T) (cur : Option Nat) : Nat := 2 * (t.keys.length + (rights k).length) + (if cur = none then 0 else 1)
inductive BtwW (st : St) (lo hi : Int) (w : T) (k : C) (t : T) (m : Nat) (ρ : Env0) (s2 : St) : Prop
  | mk : ∀ k' t' c', ρ = ρB st lo hi c' → s2 = st.wl (st.lists ++ [ndv (Fk lo hi k'), ndv (stk k')]) → NB st w lo hi k' t' c' → m = (if c' = none then 0 else t'.size) → (stk k' = [] → k' = k ∧ t' = t) → t'.keys.length + (rights k').length = t.keys.length + (rights k).length → BtwW st lo hi w k t m ρ s2
inductive BtwV (st : St) (lo hi : Int) (t : T) (m : Nat) (ρ : Env0) (s1 : St) : Prop
  | mk : ∀ k t' c', ρ = ρB st lo hi c' → s1 = st.wl (st.lists ++ [ndv (Fk lo hi k), ndv (stk k)]) → NB st t lo hi k t' c' → m = ms k t' c' → BtwV st lo hi t m ρ s1
theorem btw_turn {w t : T} {k : C} {lo hi : Int} {cur : Option Nat} {Qf : FV → Env0 → St → Prop} (wk : W.Ok) (ok : c.Ok W 1) (hc : c.cs = scopeOf (stmtAt 22)) (H1 : Fn W 0 "hand_down" handDownS) (bl : nsIn W.K mainGlobals "len" = some none)
  (hn : st.nn ≤ 900) (z : ∀ j, st.off j = 0) (lm : Lm w) (so : SK w.keys) (hA : NB st w lo hi k t cur) (hne : cur = none → stk k ≠ [])
  (hQ : ∀ k2 t2 c2 ρ2, Sub (ρB st lo hi c2) ρ2 → NB st w lo hi k2 t2 c2 → ms k2 t2 c2 < ms k t cur → Qf .next ρ2 (st.wl (st.lists ++ [ndv (Fk lo hi k2), ndv (stk k2)]))) :
  TriS W c (wBody (bodyOf (stmtAt 22))[3]?) (ρB st lo hi cur) (st.wl (st.lists ++ [ndv (Fk lo hi k), ndv (stk k)])) Qf := by
  refine TriS_cons ?_
  refine TriX_while (BtwW st lo hi w k t)
    ⟨_, _, Sub.refl, k, t, cur, rfl, rfl, hA, rfl, fun _ => ⟨rfl, rfl⟩, rfl⟩ ?_
  rintro m ρ s2 ⟨k', t', c', rfl, rfl, hB, rfl, he, hm⟩
  obtain ⟨hs1, hs2⟩ := hB.len hn
  unfold ρB
  walk_at "ovs"
  apply if_ndec <;> intro g1
  · rcases t' with _ | ⟨l, d, r⟩
    · exfalso; rcases hB.cu with e | ⟨e, _⟩ <;> exact g1 e
    have hc' : c' = some d.i := by
      rcases hB.cu with e | ⟨e, _⟩
      · exact e
      · exact absurd e g1
    subst hc'
    have zd : ∀ x, (st.wl x).off d.i = 0 := fun x => z d.i
    have hlim : ∀ x, (st.wl x).lim d.i = d.m := fun x => hB.z.at.lim
    have hlf : ∀ x, (st.wl x).lf d.i = l.top := fun x => hB.z.at.lf
    walk_at "ovs"
    refine hd_0 (by walk_at "ov ptr") (zd _) ?_
    walk_at "ovs"
    rw [hlim]
    apply if_dec <;> intro g2
    · walk_at "ovs"
      refine ⟨0, _, by simp [T.size], Sub.refl, k', .node l d r, none, rfl, rfl, hB.skip lm g2, rfl, he, hm⟩
    · walk_at "ovs"
      refine TriE_append (by rfl) (by rfl) ?_
      walk_at "ovs"
      refine ⟨_, _, rfl, wl2_get1, ?_⟩
      walk_at "ovs"
      refine ⟨_, _, rfl, wl2_get1, rfl, by simp [ndv]; omega, ?_⟩
      rw [wl2_set1]
      walk_at "ovs"
      rw [hlf]
      refine ⟨if l.top = none then 0 else l.size, _, ?_, Sub.refl, .L d r :: k', l, l.top, rfl, ?_, hB.down, rfl, fun e => by simp [stk] at e, ?_⟩
      · show _ < l.size + r.size + 1
        split <;> omega
      · simp [Fk, lefts, stk, ndv, ov]
      · rw [← hm]; simp [rights, T.keys] <;> omega
  · subst g1
    walk_at "ovs"
    refine ⟨(stk k').length, .inl ⟨_, wl2_get1, by simp [ndv]⟩, by omega, ?_⟩
    walk_at "ov"
    refine cmpV_Gt (truthV_bool ?_)
    apply if_dec <;> intro g2
    · rcases eq_nil_or_snoc (stk k') with e | ⟨xs, i, e⟩
      · rw [e] at g2; simp at g2
      obtain ⟨k1, d, r, k2, rfl, rfl, e3, e4⟩ := stk_snoc e
      obtain ⟨hp, hf⟩ := hB.pop e4 so
      have ha := (Z.plug_iff.mp hB.z).rc.1
      have hrt : ∀ x, (st.wl x).rt d.i = r.top := fun x => ha.rt
      have hbg : ∀ x, (st.wl x).bg d.i = d.b := fun x => ha.bg
      have hen : ∀ x, (st.wl x).en d.i = d.e := fun x => ha.en
      rw [e] at hs1
      have exs : ndv (xs ++ [d.i]) = ndv xs ++ [V.node d.i] := by simp [ndv]
      have hms : ∀ cc, ms (.R (plug k1 t') d :: k2) r cc < ms k t cur := fun cc => by
        have h1 := pop_rights (t := t') (k1 := k1) (c := k2) (r := r) (d := d) e4
        unfold ms
        rw [h1] at hm
        simp only [List.length_cons, List.length_append] at hm
        split <;> split <;> omega
      have hstk : stk (.R (plug k1 t') d :: k2) = xs := e3
      rw [e, exs]
      walk_at "ovs"
      refine TriE_pop (by rfl) ?_
      walk_at "ovs"
      refine ⟨_, _, _, rfl, wl2_get1, by simp [ndv] at hs1 ⊢; omega, ?_⟩
      rw [wl2_set1]
      walk_at "ovs"
      rw [hbg]
      apply if_dec <;> intro g3
      · rw [if_pos g3] at hp
        walk_at "ovs"
        rw [hen]
        apply if_dec <;> intro g4
        · rw [if_pos (by simp [inR, D.key, g3, g4])] at hf
          have e6 : ndv (Fk lo hi (k1 ++ .L d r :: k2)) ++ [V.node d.i] = ndv (Fk lo hi (.R (plug k1 t') d :: k2)) := by rw [hf]; simp [ndv]
          walk_at "ovs"
          refine TriE_append (by rfl) (by rfl) ?_
          walk_at "ovs"
          refine ⟨_, _, rfl, wl2_get0, ?_⟩
          walk_at "ovs"
          refine ⟨_, _, rfl, wl2_get0, rfl, by simp [ndv]; omega, ?_⟩
          rw [wl2_set0, e6]
          walk_at "ovs"
          rw [hbg]
          apply if_dec <;> intro g5
          · walk_at "ovs"
            rw [hrt, ← hstk]
            exact hQ _ _ _ _ Sub.refl hp (hms _)
          · exact absurd g3 g5
        · rw [if_neg (by simp [inR, D.key, g3, g4]), List.append_nil] at hf
          walk_at "ovs"
          rw [hbg]
          apply if_dec <;> intro g5
          · walk_at "ovs"
            rw [hrt, ← hstk, ← hf]
            exact hQ _ _ _ _ Sub.refl hp (hms _)
          · exact absurd g3 g5
      · rw [if_neg g3] at hp
        rw [if_neg (by simp [inR, D.key, g3]), List.append_nil] at hf
        walk_at "ovs"
        rw [hbg]
        apply if_dec <;> intro g5
        · exact absurd g5 g3
        · walk_at "ovs"
          rw [← hstk, ← hf]
          exact hQ _ _ _ _ Sub.refl hp (hms _)
    · have hs : stk k' = [] := by
        cases hk : stk k' with
        | nil => rfl
        | cons a b => rw [hk] at g2; exact absurd (by simp only [List.length_cons]; omega) g2
      obtain ⟨rfl, rfl⟩ := he hs
      have hcur : cur ≠ none := fun e => hne e hs
      walk_at "ovs"
      exact hQ _ _ _ _ Sub.refl hB (by unfold ms; rw [if_pos rfl, if_neg hcur]; omega)
inductive btwS (xs : List V) (st : St) (Q : V → St → Prop) : Prop
  | mk : ∀ t lo hi, (xs = [.tree, .int lo, .int hi]) → (Z st [] t) → ((∀ j, st.off j = 0)) → (Lm t) → (SK t.keys) → (st.nn ≤ 900) → (Q (.fl (ndv ((t.keys.filter (inR lo hi)).map (·.1)))) st) → btwS xs st Q
theorem btw_body {t : T} {lo hi : Int} {Q : V → St → Prop} (wk : W.Ok) (ok : c.Ok W 1) (hc : c.cs = scopeOf (stmtAt 22)) (H1 : Fn W 0 "hand_down" handDownS) (bl : nsIn W.K mainGlobals "len" = some none)
  (h : Z st [] t) (z : ∀ j, st.off j = 0) (lm : Lm t) (so : SK t.keys) (hn : st.nn ≤ 900) (hq : Q (.fl (ndv ((t.keys.filter (inR lo hi)).map (·.1)))) st) :
  TriS W c (bodyOf (stmtAt 22)) [("tree", .tree), ("begin", .int lo), ("end", .int hi)] st (LeaveQ st.lists.length Q) := by
  have hroot : ∀ x, (st.wl x).root = t.top := fun x => h.rc
  refine TriS_cons ?_
  walk_at "ovs"
  refine TriE_list (TriEs_nil ⟨⟨by decide, rfl⟩, ?_⟩)
  walk_at "ovs"
  refine TriE_list (TriEs_nil ⟨⟨by decide, rfl⟩, ?_⟩)
  rw [addL2, addL_len]
  walk_at "ovs"
  rw [hroot]
  refine TriX_while (BtwV st lo hi t)
    ⟨_, _, Sub.refl, [], t, t.top, rfl, rfl, ⟨h, rfl, .inl rfl⟩, rfl⟩ ?_
  rintro m ρ s1 ⟨k, t', cur, rfl, rfl, hA, rfl⟩
  have step : ∀ k2 t2 c2 ρ2, Sub (ρB st lo hi c2) ρ2 → NB st t lo hi k2 t2 c2 → ms k2 t2 c2 < ms k t' cur →
      Next (BtwV st lo hi t) (ms k t' cur) ρ2 (st.wl (st.lists ++ [ndv (Fk lo hi k2), ndv (stk k2)])) :=
    fun k2 t2 c2 ρ2 h1 h2 h3 => ⟨_, _, h3, h1, k2, t2, c2, rfl, rfl, h2, rfl⟩
  have turn := fun hne Qf hQ => btw_turn (Qf := Qf) wk ok hc H1 bl hn z lm so hA hne hQ
  unfold ρB at turn step ⊢
  walk_at "ovs"
  apply if_ndec <;> intro g1
  · exact turn (fun e => absurd e g1) _ step
  · walk_at "ovs"
    refine ⟨(stk k).length, .inl ⟨_, wl2_get1, by simp [ndv]⟩, by have := (hA.len hn).1; omega, ?_⟩
    walk_at "ov"
    refine cmpV_Gt (truthV_bool ?_)
    apply if_dec <;> intro g2
    · exact turn (fun _ e => by rw [e] at g2; simp at g2) _ step
    · have hs : stk k = [] := by
        cases hk : stk k with
        | nil => rfl
        | cons a b => rw [hk] at g2; exact absurd (by simp only [List.length_cons]; omega) g2
      subst g1
      walk_at "ovs"
      refine ⟨⟨Nat.le_refl _, by simp [St.wl]⟩, ?_⟩
      show Q (.fl ((st.wl (st.lists ++ [ndv (Fk lo hi k), ndv (stk k)])).lists.getD st.lists.length [])) _
      rw [leave_wl, List.getD_eq_getElem?_getD, wl2_get0]
      have e0 : t'.keys.filter (inR lo hi) = [] := List.filter_eq_nil_iff.mpr (fun x hx => by simp [hA.none x hx])
      have : Fk lo hi k = (t.keys.filter (inR lo hi)).map (·.1) := by
        unfold Fk
        rw [← hA.pl, keys_of_rights hs, List.filter_append, e0, List.append_nil]
      show Q (.fl (ndv (Fk lo hi k))) st
      rw [this]; exact hq
theorem fn_btw (wk : W.Ok) (D : Defd W "nodes_between" 22) (H1 : Fn W 0 "hand_down" handDownS) (bl : nsIn W.K mainGlobals "len" = some none) : Fn W 1 "nodes_between" btwS :=
  Fn.mk D fun f hf => FnOK.of_body (ns := ["tree", "begin", "end"]) hf (fun _ _ _ _ _ => args3 fun _ _ _ => rfl) (by decide) (by decide) (by rintro xs st Q ⟨t, lo, hi, rfl, -⟩; rfl)
    (by rintro c st xs Q ok hc ⟨t, lo, hi, rfl, h1, h2, h3, h4, h5, h6⟩; exact btw_body wk ok hc H1 bl h1 h2 h3 h4 h5 h6) (by decide) rfl rfl rfl
end
end
-- == M31
section
open PySem PySem.W PySem.Calls PyProof.Rows
set_option linter.unusedVariables false
set_option maxRecDepth 100000

section
variable {W : Wc} {c : Fc} {ρ : Env0} {st : St}

/-- the names of a comprehension's block -/
structure Blk (c : Fc) (ρ : Env0) (C : Addr) (x : Str) (a : V) (μ : Mu) (own : Addr → Tag) (news : Led0) : Prop where
  va : ∃ oC m₂ v, (C, oC) ∈ news ∧ own C = .it ∧ LCg.NsObj oC m₂ ∧ m₂ x = some v ∧ VR μ own news a v
  ce : ∀ y v, ρ.lookup y = some v → c.cs.names.lookup y = some .cell → ∃ ca o, c.cl.lookup y = some ca ∧ (ca, o) ∈ news ∧ own ca = .ce ∧ CellV μ own news o v
theorem Blk.step {C : Addr} {x : Str} {a : V} {μ μ' : Mu} {own own' : Addr → Tag} {news news' : Led0} (h : Blk c ρ C x a μ own news) (S : Stp TA μ own news μ' own' news') : Blk c ρ C x a μ' own' news' := by
  constructor
  · obtain ⟨oC, m₂, v, h1, h2, h3, h4, h5⟩ := h.va
    obtain ⟨h6, h7⟩ := S.fr (C, oC) h1 (by show TA (own C) = true; rw [h2]; rfl)
    exact ⟨oC, m₂, v, h6, h7.trans h2, h3, h4, h5.step S⟩
  · intro y v e k
    obtain ⟨ca, o, h1, h2, h3, h4⟩ := h.ce y v e k
    obtain ⟨h6, h7⟩ := S.fr (ca, o) h2 (by show TA (own ca) = true; rw [h3]; rfl)
    exact ⟨ca, o, h1, h6, h7.trans h3, h4.stepv (S.toStV rfl)⟩
noncomputable def EvC {α β : Type} (W : Wc) (c : Fc) (ρ : Env0) (C : Addr) (x : Str) (a : V) (t : Sem α) (R : Mu → (Addr → Tag) → Led0 → β → α → Prop) (st : St) (Q : β → Prop) : Prop :=
  ∀ s μ own news m, Rel W c st μ own news m s → Blk c ρ C x a μ own news → wpAny (model W.prog W.w) c.A t (Post W c TA R μ own news m s fun b st' => Q b ∧ st' = st) (fun _ _ => False) s
variable {C : Addr} {x : Str} {a : V}
theorem evc_then {α β : Type} {t : Sem α} {R : Mu → (Addr → Tag) → Led0 → β → α → Prop} {Q : β → Prop} {Z : α → Shared → Prop} {s : Shared} {μ : Mu} {own : Addr → Tag} {news : Led0} {m : Str → Option Value}
    (h : EvC W c ρ C x a t R st Q) (hR : Rel W c st μ own news m s) (hB : Blk c ρ C x a μ own news)
    (k : ∀ v s' b μ' own' news', Stp TA μ own news μ' own' news' → Rel W c st μ' own' news' m s' → Blk c ρ C x a μ' own' news' → R μ' own' news' b v → Same s s' → Q b → Z v s') :
    wpAny (model W.prog W.w) c.A t Z (fun _ _ => False) s :=
  wpAny_mono (h s μ own news m hR hB) (fun v s' p => by
    obtain ⟨b, st', μ', own', news', S, R', r, e, q, rfl⟩ := p
    exact k v s' b μ' own' news' S R' (hB.step S) r e q) fun _ _ x => x
theorem EvC.mono {α β : Type} {t : Sem α} {R : Mu → (Addr → Tag) → Led0 → β → α → Prop} {Q Q' : β → Prop} (h : EvC W c ρ C x a t R st Q) (k : ∀ b, Q b → Q' b) : EvC W c ρ C x a t R st Q' :=
  fun s μ own news m hR hB => wpAny_mono (h s μ own news m hR hB) (fun _ _ p => p.mono fun b st' q => ⟨k b q.1, q.2⟩) fun _ _ x => x
theorem evc_two {env : Env} {l r : Expr} {Y : Value → Value → Shared → Prop} {s : Shared} {μ : Mu} {own : Addr → Tag} {news : Led0} {m : Str → Option Value} {Q : V → V → Prop}
    (h : EvC W c ρ C x a (eval l env) VR st fun y => EvC W c ρ C x a (eval r env) VR st fun z => Q y z) (hR : Rel W c st μ own news m s) (hB : Blk c ρ C x a μ own news)
    (k : ∀ va vb s' y z μ' own' news', Stp TA μ own news μ' own' news' → Rel W c st μ' own' news' m s' → Blk c ρ C x a μ' own' news' → VR μ' own' news' y va → VR μ' own' news' z vb → Same s s' → Q y z → Y va vb s') :
    wpAny (model W.prog W.w) c.A (eval l env) (fun va s₁ => wpAny (model W.prog W.w) c.A (eval r env) (fun vb s₂ => Y va vb s₂) (fun _ _ => False) s₁) (fun _ _ => False) s := by
  refine evc_then h hR hB fun va s' y μ' own' news' S R' B' ra e q => ?_
  refine evc_then q R' B' fun vb s'' z μ'' own'' news'' S' R'' B'' rb e' q' => ?_
  exact k va vb s'' y z μ'' own'' news'' (S.trans S') R'' B'' (ra.step S') rb (e.trans e') q'

section
variable {scope : Scope} {cl : List (Str × Addr)}
theorem C_var {p : Pos} {Q : V → Prop} (hk : (compEnvC scope cl C c.env).scope.kind = .function) (hx : (compEnvC scope cl C c.env).kindOf x = some .local) (hd : (x == ("__debug__" : Str)) = false) (hq : Q a) :
    EvC W c ρ C x a (eval (.Name x p) (compEnvC scope cl C c.env)) VR st Q := by
  intro s μ own news m hR hB
  obtain ⟨oC, m₂, v, h1, h2, h3, h4, h5⟩ := hB.va
  exact wpAny_Name (wpAny_loadName_local hk hx (h3.ns (hR.N _ h1).1) h4 (Post.now hR h5 rfl rfl ⟨hq, rfl⟩)) hd
theorem C_cell {y : Str} {v : V} {p : Pos} {Q : V → Prop} (hv : ρ.lookup y = some v) (hc : c.cs.names.lookup y = some .cell) (hu : v ≠ .un) (hl : cl.lookup y = c.cl.lookup y)
    (hk : (compEnvC scope cl C c.env).scope.kind = .function) (hx : (compEnvC scope cl C c.env).kindOf y = some .cell) (hd : (y == ("__debug__" : Str)) = false) (hq : Q v) :
    EvC W c ρ C x a (eval (.Name y p) (compEnvC scope cl C c.env)) VR st Q := by
  intro s μ own news m hR hB
  obtain ⟨ca, o, h1, h2, h3, h4⟩ := hB.ce y v hv hc
  rcases h4 with ⟨e, _⟩ | ⟨cv, h4, h5⟩
  · exact absurd e hu
  exact wpAny_Name (wpAny_loadName_cell hk hx (hl.trans h1) ⟨o, News.get hR.N h2, h4⟩ (Post.now hR h5 rfl rfl ⟨hq, rfl⟩)) hd
end
section
variable {env : Env}
theorem C_int {i : Int} {k : Nat} {p : Pos} {Q : V → Prop} (hq : Q (.int i)) : EvC W c ρ C x a (eval (.Constant (.int i) k p) env) VR st Q :=
  fun s μ own news m hR hB => wpAny_Constant_int (Post.now hR (.int i _) rfl rfl ⟨hq, rfl⟩)
theorem C_attr {d : Nat} {e : Expr} {nm : Str} {p : Pos} {Q : V → Prop} (wk : W.Ok) (ok : c.Ok W d)
    (he : eval (.Attribute e nm p) env = (do
      let o ← eval e env
      standAt p.atName
      let r ← holding [o] (getAttr o nm true)
      letTemporaryGo e o r
      pure r))
    (h : EvC W c ρ C x a (eval e env) VR st fun y => getV st y nm Q) : EvC W c ρ C x a (eval (.Attribute e nm p) env) VR st Q := by
  intro s μ own news m hR hB
  refine Attribute_any_ (evc_then h hR hB fun v s' y μ' own' news' S R' B' r e q => ?_) he
  refine wpAny_mono (getAttr_V (Q := fun b st' => Q b ∧ st' = st) wk ok R' r ?_) (fun _ _ p => p.after S e) fun _ _ x => x
  cases y <;> try exact q.elim
  · obtain ⟨f, e, q⟩ := q; exact ⟨f, e, q, rfl⟩
  · obtain ⟨f, e, q⟩ := q; exact ⟨f, e, q, rfl⟩
theorem itemV_and {y k : V} {Q : V → Prop} (h : itemV st y k Q) : itemV st y k fun b => Q b ∧ st = st := by
  obtain ⟨n, e, h⟩ := h
  refine ⟨n, e, ?_⟩
  cases y <;> try exact h.elim
  · obtain ⟨xs, x, h1, h2, h3, h4, h5⟩ := h; exact ⟨xs, x, h1, h2, h3, h4, h5, rfl⟩
  · obtain ⟨x, h1, h5⟩ := h; exact ⟨x, h1, h5, rfl⟩
  · obtain ⟨x, h2, h3, h4, h5⟩ := h; exact ⟨x, h2, h3, h4, h5, rfl⟩
  · obtain ⟨x, h2, h3, h4, h5⟩ := h; exact ⟨x, h2, h3, h4, h5, rfl⟩
theorem C_sub {value slice : Expr} {p : Pos} {Q : V → Prop} (hs : ∀ o i, subscripted slice false o i = operate [o, i] (getItem o i))
    (h : EvC W c ρ C x a (eval value env) VR st fun y => EvC W c ρ C x a (eval slice env) VR st fun k => itemV st y k Q) : EvC W c ρ C x a (eval (.Subscript value slice p) env) VR st Q := by
  intro s μ own news m hR hB
  refine Subscript_ (evc_two h hR hB fun va vk s' y k μ' own' news' S R' B' ra rk e q => ?_)
  exact wpAny_mono (subs_seq (Q := fun b st' => Q b ∧ st' = st) hs R' ra rk (itemV_and q)) (fun _ _ p => p.after S e) fun _ _ x => x
theorem Cs_nil {pos : Pos} {Q : List V → Prop} (h : Q []) : EvC W c ρ C x a (spliced (backTo pos (starEach [] env))) VRs st Q :=
  fun s μ own news m hR hB => wpAny_pure (Post.now hR VRs.nil rfl rfl ⟨h, rfl⟩)
theorem Cs_cons {pos : Pos} {e : Expr} {es : List Expr} {Q : List V → Prop} (he : starEach (e :: es) env = (false, eval e env) :: starEach es env)
    (h : EvC W c ρ C x a (eval e env) VR st fun y => EvC W c ρ C x a (spliced (backTo pos (starEach es env))) VRs st fun ys => Q (y :: ys)) : EvC W c ρ C x a (spliced (backTo pos (starEach (e :: es) env))) VRs st Q := by
  intro s μ own news m hR hB
  rw [he]
  show wpAny _ c.A (do
    let v ← eval e env
    let here ← pure [v]
    return here ++ (← holding here (spliced (backTo pos (starEach es env))))) _ _ s
  refine wpAny_bind (evc_then h hR hB fun va s' y μ' own' news' S R' B' ra e q => ?_)
  refine wpAny_bind (wpAny_pure (wpAny_bind (wpAny_holding ?_)))
  refine evc_then q R' B' fun vs s'' ys μ'' own'' news'' S' R'' B'' rs e' q' => ?_
  exact wpAny_pure ⟨y :: ys, st, μ'', own'', news'', S.trans S', R'', .cons (ra.step S') rs, e.trans e', q', rfl⟩
theorem C_tuple {es : List Expr} {k : Nat} {p : Pos} {Q : V → Prop} (h : EvC W c ρ C x a (spliced (backTo p (starEach es env))) VRs st fun xs => xs.length ≤ 1000 ∧ Q (.tup xs)) : EvC W c ρ C x a (eval (.Tuple es k p) env) VR st Q := by
  intro s μ own news m hR hB
  refine Tuple_ (evc_then h hR hB fun vs s' xs μ' own' news' S R' B' r e q => ?_)
  refine newTuple_V R' r (by rw [← r.length]; exact q.1) fun v s'' own'' news'' S' R'' r' e' => ?_
  exact ⟨.tup xs, st, μ', own'', news'', S.trans S', R'', r', e.trans e', q.2, rfl⟩
theorem cmpV_mono {op : CmpOp} {y z : V} {Q Q' : V → Prop} (h : cmpV op y z Q) (k : ∀ v, Q v → Q' v) : cmpV op y z Q' := by
  unfold cmpV at h ⊢
  split at h <;> first | exact h.elim | (obtain ⟨x, y, h1, h2, h3⟩ := h; exact ⟨x, y, h1, h2, k _ h3⟩)
theorem CT_cmp {l r : Expr} {op : CmpOp} {p : Pos} {Q : Bool → Prop} (hm : behindInMarks op r = false)
    (h : EvC W c ρ C x a (eval l env) VR st fun y => EvC W c ρ C x a (eval r env) VR st fun z => cmpV op y z fun v => truthV v Q) : EvC W c ρ C x a (isTrue (.Compare l [op] [r] p) env (eval (.Compare l [op] [r] p) env)) EqR st Q := by
  intro s μ own news m hR hB
  refine wpAny_isTrue_Compare1 (evc_two h hR hB fun va vb s' y z μ' own' news' S R' B' ra rb e q => ?_) hm
  refine wpAny_mono (cmp_V (Q := fun v st'' => (truthV v fun t => Q t ∧ st'' = st) ∧ st'' = st) R' ra rb (cmpV_mono q fun v hv => ⟨?_, rfl⟩)) (fun vc s3 p => ?_) fun _ _ x => x
  · obtain ⟨t, e, hq⟩ := hv; exact ⟨t, e, hq, rfl⟩
  obtain ⟨b3, st3, μ3, own3, news3, S3, R3, r3, e3, q3, rfl⟩ := p
  exact wpAny_mono (truth_V R3 r3 q3) (fun _ _ p => p.after (S.trans S3) (e.trans e3)) fun _ _ x => x
theorem CT_and1 {e : Expr} {p : Pos} {whole : Sem Value} {Q : Bool → Prop} (h : EvC W c ρ C x a (isTrue e env (eval e env)) EqR st Q) : EvC W c ρ C x a (isTrue (.BoolOp .And [e] p) env whole) EqR st Q := by
  intro s μ own news m hR hB
  refine isTrue_and (wpAny_mono (h s μ own news m hR hB) (fun b s' p => ?_) fun _ _ x => x)
  obtain ⟨b3, st3, μ3, own3, news3, S3, R3, r3, e3, q3⟩ := p
  cases r3
  cases b
  · exact ⟨false, st3, μ3, own3, news3, S3, R3, rfl, e3, q3⟩
  · exact isTrue_and_nil ⟨true, st3, μ3, own3, news3, S3, R3, rfl, e3, q3⟩
theorem CT_and {e e2 : Expr} {es : List Expr} {p : Pos} {whole : Sem Value} {Q : Bool → Prop} (h : EvC W c ρ C x a (isTrue e env (eval e env)) EqR st fun t => if t = true then EvC W c ρ C x a (isTrue (.BoolOp .And (e2 :: es) p) env whole) EqR st Q else Q false) :
    EvC W c ρ C x a (isTrue (.BoolOp .And (e :: e2 :: es) p) env whole) EqR st Q := by
  intro s μ own news m hR hB
  refine isTrue_and (evc_then h hR hB fun b s' t μ' own' news' S R' B' r e q => ?_)
  cases r
  cases b
  · exact ⟨false, st, μ', own', news', S, R', rfl, e, q, rfl⟩
  · simp only [if_true] at q ⊢
    exact wpAny_mono (q s' μ' own' news' m R' B') (fun _ _ p => p.after S e) fun _ _ x => x
end

/-- three objects that are no more than a block's are laid on the ledger, and taken off -/
theorem nodup3 {news : Led0} {I Ca D : Addr} {oI oC oD : Obj} (hn : (news.map (·.1)).Nodup) (off : LCg.Off3 I Ca D news) (hne : @Ne Nat I Ca ∧ @Ne Nat I D ∧ @Ne Nat Ca D) : (((I, oI) :: (Ca, oC) :: (D, oD) :: news).map (·.1)).Nodup := by
  have o3 := off.mem
  simp only [List.map_cons, List.nodup_cons, List.mem_cons, List.mem_map, not_or, not_exists, not_and]
  exact ⟨⟨hne.1, hne.2.1, fun p hp e => (o3 p hp).1 e⟩, ⟨hne.2.2, fun p hp e => (o3 p hp).2.1 e⟩, fun p hp e => (o3 p hp).2.2 e, hn⟩
end
end
-- == M32
section
open PySem PySem.W PySem.Calls PyProof.Rows
set_option linter.unusedVariables false
set_option maxRecDepth 100000

section
variable {W : Wc} {c : Fc} {ρ : Env0} {st : St}
theorem off1_mem {D : Addr} : ∀ {l : List (Addr × Obj)}, LCg.Off1 D l → ∀ p ∈ l, p.1 ≠ D
  | [], _, _, h => nomatch h
  | _ :: _, x, p, h => by
    rcases List.mem_cons.mp h with rfl | h
    · exact x.1
    · exact off1_mem x.2 p h
theorem drop3 {prog : Program} {w : World} {Cn Ct : Addr} {μ : Mu} {own : Addr → Tag} {news : Led0} {I C D : Addr} (L : Led prog w Cn Ct st μ own news) (hI : own I = .it) (hC : own C = .it) (hD : own D = .it) :
    ∃ news', (∀ p ∈ news', p ∈ news ∧ p.1 ≠ I ∧ p.1 ≠ C ∧ p.1 ≠ D) ∧ (∀ p ∈ news, p.1 ≠ I → p.1 ≠ C → p.1 ≠ D → p ∈ news') ∧ Led prog w Cn Ct st μ own news' := by
  have f : ∀ (l : Led0) (J : Addr), ∀ p ∈ l, p.1 ≠ J → p ∈ l.filter (fun p => p.1 != J) := fun l J p hp hne => List.mem_filter.mpr ⟨hp, by simpa using hne⟩
  have L1 := L.chg hI (f news I) (nodup_filter L.nodup)
  have L2 := L1.chg hC (f _ C) (nodup_filter L1.nodup)
  have L3 := L2.chg hD (f _ D) (nodup_filter L2.nodup)
  refine ⟨_, fun p hp => ?_, fun p hp h1 h2 h3 => f _ D _ (f _ C _ (f _ I _ hp h1) h2) h3, L3⟩
  obtain ⟨h1, h2⟩ := List.mem_filter.mp hp
  obtain ⟨h3, h4⟩ := List.mem_filter.mp h1
  obtain ⟨h5, h6⟩ := List.mem_filter.mp h3
  exact ⟨h5, by simpa using h6, by simpa using h4, by simpa using h2⟩

/-- the block's three objects laid on the ledger -/
theorem lay3 {μ : Mu} {own : Addr → Tag} {news : Led0} {m : Str → Option Value} {s : Shared} {I C D : Addr} {oI oC oD : Obj} (L : Led W.prog W.w W.Cn W.Ct st μ own news) (off : LCg.Off3 I C D news) (hne : @Ne Nat I C ∧ @Ne Nat I D ∧ @Ne Nat C D)
    (F : Fr c.h₀ c.L s.heap m) (N : News c.h₀ c.L s.heap ((I, oI) :: (C, oC) :: (D, oD) :: news)) :
    ∃ own', Stp TA μ own news μ own' ((I, oI) :: (C, oC) :: (D, oD) :: news) ∧ Rel W c st μ own' ((I, oI) :: (C, oC) :: (D, oD) :: news) m s ∧ own' I = .it ∧ own' C = .it ∧ own' D = .it ∧ ∀ p ∈ news, own' p.1 = own p.1 := by
  have o3 := off.mem
  have f1 : ∀ p ∈ news, p.1 ≠ D := fun p hp => (o3 p hp).2.2
  have f2 : ∀ p ∈ (D, oD) :: news, p.1 ≠ C := fun p hp => by
    rcases List.mem_cons.mp hp with rfl | hp
    · exact fun e => hne.2.2 e.symm
    · exact (o3 p hp).2.1
  have f3 : ∀ p ∈ (C, oC) :: (D, oD) :: news, p.1 ≠ I := fun p hp => by
    rcases List.mem_cons.mp hp with rfl | hp
    · exact fun e => hne.1 e.symm
    · rcases List.mem_cons.mp hp with rfl | hp
      · exact fun e => hne.2.1 e.symm
      · exact (o3 p hp).1
  have S1 : Stp TA μ own news μ (ownAt own D .it) ((D, oD) :: news) := Stp.grow f1
  have S2 : Stp TA μ (ownAt own D .it) ((D, oD) :: news) μ (ownAt (ownAt own D .it) C .it) ((C, oC) :: (D, oD) :: news) := Stp.grow f2
  have S3 : Stp TA μ (ownAt (ownAt own D .it) C .it) ((C, oC) :: (D, oD) :: news) μ (ownAt (ownAt (ownAt own D .it) C .it) I .it) ((I, oI) :: (C, oC) :: (D, oD) :: news) := Stp.grow f3
  have L1 : Led W.prog W.w W.Cn W.Ct st μ (ownAt own D .it) ((D, oD) :: news) := L.grow f1
  have L2 : Led W.prog W.w W.Cn W.Ct st μ (ownAt (ownAt own D .it) C .it) ((C, oC) :: (D, oD) :: news) := L1.grow f2
  have L3 : Led W.prog W.w W.Cn W.Ct st μ (ownAt (ownAt (ownAt own D .it) C .it) I .it) ((I, oI) :: (C, oC) :: (D, oD) :: news) := L2.grow f3
  refine ⟨_, (S1.trans S2).trans S3, ⟨F, N, L3⟩, ownAt_self, ?_, ?_, fun p hp => ?_⟩
  · rw [ownAt_ne (Ne.symm hne.1)]; exact ownAt_self
  · rw [ownAt_ne (Ne.symm hne.2.1), ownAt_ne (Ne.symm hne.2.2)]; exact ownAt_self
  · rw [ownAt_ne (o3 p hp).1, ownAt_ne (o3 p hp).2.1, ownAt_ne (o3 p hp).2.2]

/-- one turn of the block is over -/
theorem end3 {μ μ' : Mu} {own own1 own' : Addr → Tag} {news news' : Led0} {m : Str → Option Value} {s₁ s' : Shared} {I C D : Addr} {oI oC oD : Obj} {S : List (Addr × Obj) → Prop} {rest : Value → List (Addr × Obj) → Prop} {y : Value}
    (off : LCg.Off3 I C D news) (hI : own1 I = .it) (hC : own1 C = .it) (hD : own1 D = .it) (ho : ∀ p ∈ news, own1 p.1 = own p.1)
    (S1 : Stp TA μ own1 ((I, oI) :: (C, oC) :: (D, oD) :: news) μ' own' news') (R' : Rel W c st μ' own' news' m s') (e : Same s₁ s')
    (hS : ∀ news2, Stp TA μ own news μ' own' news2 → S news2)
    (hr : ∀ news2, Stp TA μ own news μ' own' news2 → Led W.prog W.w W.Cn W.Ct st μ' own' news2 → (∀ p ∈ news', p.1 ≠ I → p.1 ≠ C → p.1 ≠ D → p ∈ news2) → rest y news2) :
    LCg.CompEnd c.h₀ c.L m s₁ I oI C oC D oD S rest y s' := by
  obtain ⟨fI, gI⟩ := S1.fr (I, oI) (.head _) (by show TA (own1 I) = true; rw [hI]; rfl)
  obtain ⟨fC, gC⟩ := S1.fr (C, oC) (.tail _ (.head _)) (by show TA (own1 C) = true; rw [hC]; rfl)
  obtain ⟨fD, gD⟩ := S1.fr (D, oD) (.tail _ (.tail _ (.head _))) (by show TA (own1 D) = true; rw [hD]; rfl)
  obtain ⟨news2, k1, k2, L2⟩ := drop3 R'.D (gI.trans hI) (gC.trans hC) (gD.trans hD)
  have o3 := off.mem
  have S2 : Stp TA μ own news μ' own' news2 := by
    refine ⟨S1.nd, S1.ls, S1.tr, S1.dc, fun p hp ht => ?_, fun p hp => ?_⟩
    · obtain ⟨a, b⟩ := S1.fr p (.tail _ (.tail _ (.tail _ hp))) (by rw [ho p hp]; exact ht)
      exact ⟨k2 p a (o3 p hp).1 (o3 p hp).2.1 (o3 p hp).2.2, b.trans (ho p hp)⟩
    · obtain ⟨q, hq, e⟩ := List.mem_map.mp (S1.adr p (.tail _ (.tail _ (.tail _ hp))))
      rw [← e]
      refine List.mem_map_of_mem (f := (·.1)) (k2 q hq ?_ ?_ ?_) <;> rw [e]
      · exact (o3 p hp).1
      · exact (o3 p hp).2.1
      · exact (o3 p hp).2.2
  rw [show s' = { s₁ with heap := s'.heap, toks := s'.toks } from e]
  refine LCg.CompEnd.intro R'.F R'.N news2 (fun p hp => ?_) (LCg.Off3.of fun p hp => (k1 p hp).2) (hS _ S2) (hr _ S2 L2 k2)
  rcases List.mem_cons.mp hp with rfl | hp
  · exact fI
  · rcases List.mem_cons.mp hp with rfl | hp
    · exact fC
    · rcases List.mem_cons.mp hp with rfl | hp
      · exact fD
      · exact (k1 p hp).1

/-- what the block reads throughout -/
structure Src (c : Fc) (ρ : Env0) (ax : Addr) (vs : List Value) (n : Nat) (xs : List V) (μ : Mu) (own : Addr → Tag) (news : Led0) : Prop where
  mem : (ax, listOf vs.toArray n) ∈ news
  fz : own ax = .fz
  vr : VRs μ own news xs vs
  ce : ∀ y v, ρ.lookup y = some v → c.cs.names.lookup y = some .cell → ∃ ca o, c.cl.lookup y = some ca ∧ (ca, o) ∈ news ∧ own ca = .ce ∧ CellV μ own news o v
theorem Src.step {ax : Addr} {vs : List Value} {n : Nat} {xs : List V} {μ μ' : Mu} {own own' : Addr → Tag} {news news' : Led0} (h : Src c ρ ax vs n xs μ own news) (S : Stp TA μ own news μ' own' news') : Src c ρ ax vs n xs μ' own' news' := by
  obtain ⟨h1, h2⟩ := S.fr _ h.mem (by show TA (own ax) = true; rw [h.fz]; rfl)
  refine ⟨h1, h2.trans h.fz, h.vr.step S, fun y v e k => ?_⟩
  obtain ⟨ca, o, h1, h2, h3, h4⟩ := h.ce y v e k
  obtain ⟨h6, h7⟩ := S.fr (ca, o) h2 (by show TA (own ca) = true; rw [h3]; rfl)
  exact ⟨ca, o, h1, h6, h7.trans h3, h4.stepv (S.toStV rfl)⟩
theorem Src.at {ax : Addr} {vs : List Value} {n : Nat} {xs : List V} {μ : Mu} {own : Addr → Tag} {news : Led0} (h : Src c ρ ax vs n xs μ own news) : LCg.SrcAt c.h₀ ax vs.toArray news := .inr ⟨_, h.mem, rfl, n, rfl⟩
theorem Src.blk {ax : Addr} {vs : List Value} {n : Nat} {xs : List V} {μ : Mu} {own : Addr → Tag} {news : Led0} {C : Addr} {oC : Obj} {m₂ : Str → Option Value} {x : Str} {v : Value} {i : Nat} {a : V} (h : Src c ρ ax vs n xs μ own news)
    (h1 : (C, oC) ∈ news) (h2 : own C = .it) (h3 : LCg.NsObj oC m₂) (h4 : m₂ x = some v) (hv : vs[i]? = some v) (ha : xs[i]? = some a) : Blk c ρ C x a μ own news :=
  ⟨⟨oC, m₂, v, h1, h2, h3, h4, h.vr.getV hv ha⟩, h.ce⟩
theorem Loc.src {μ : Mu} {own : Addr → Tag} {news : Led0} {m : Str → Option Value} (hL : Loc c ρ m μ own news) : ∀ y v, ρ.lookup y = some v → c.cs.names.lookup y = some .cell → ∃ ca o, c.cl.lookup y = some ca ∧ (ca, o) ∈ news ∧ own ca = .ce ∧ CellV μ own news o v :=
  fun y v e k => (hL y v e).2 k

variable {elt : Expr} {x : Str} {scope : Scope} {cl : List (Str × Addr)} {g : V → V} {xs : List V} {ax : Addr} {vs : List Value} {n : Nat}
theorem comp_rest {Fin : List Value → List (Addr × Obj) → Prop} {m : Str → Option Value} {s : Shared} {μ₀ : Mu} {own₀ : Addr → Tag} {news₀ : Led0}
    (hel : ∀ C a, a ∈ xs → EvC W c ρ C x a (eval elt (compEnvC scope cl C c.env)) VR st (fun b => b = g a))
    (hFin : ∀ ys μ own news, Stp TA μ₀ own₀ news₀ μ own news → Led W.prog W.w W.Cn W.Ct st μ own news → VRs μ own news (xs.map g) ys → Fin ys news) :
    ∀ (k i : Nat) (ys : List Value) (μ : Mu) (own : Addr → Tag) (news : Led0), k + i = xs.length → Stp TA μ₀ own₀ news₀ μ own news → Led W.prog W.w W.Cn W.Ct st μ own news → Src c ρ ax vs n xs μ own news → VRs μ own news ((xs.take i).map g) ys →
      LCg.CompRest W.prog W.w c.A c.h₀ c.L m c.env elt x scope cl s (LCg.SrcAt c.h₀ ax vs.toArray) (fun i v => vs.toArray[i]? = some v) Fin k i ys news := by
  intro k
  induction k with
  | zero =>
    intro i ys μ own news hi S L hS hv
    refine LCg.CompRest.zero (hFin ys μ own news S L ?_)
    rw [List.take_of_length_le (by omega)] at hv; exact hv
  | succ k ih =>
    intro i ys μ own news hi S L hS hv
    refine LCg.CompRest.succ fun v I oI C oC D m₂ h tk E' hP hNs hm F N off hne => ?_
    obtain ⟨own1, S1, R1, o1, o2, o3, o4⟩ := lay3 (s := { s with heap := h, toks := tk }) L off hne F N
    have hv' : vs[i]? = some v := by simpa using hP
    obtain ⟨a, ha⟩ : ∃ a, xs[i]? = some a := ⟨xs[i]'(by omega), by simp⟩
    have hmem : a ∈ xs := List.mem_of_getElem? ha
    have hB : Blk c ρ C x a μ own1 _ := (hS.step S1).blk (.tail _ (.head _)) o2 hNs hm hv' ha
    refine wpAny_mono (hel C a hmem _ μ own1 _ m R1 hB) (fun y s' p => ?_) fun _ _ z => z.elim
    obtain ⟨b, st', μ', own', news', S2, R', r, e, rfl, rfl⟩ := p
    refine end3 off o1 o2 o3 o4 S2 R' e (fun news2 S3 => (hS.step S3).at) fun news2 S3 L3 k2 => ?_
    refine ih (i + 1) (ys ++ [y]) μ' own' news2 (by omega) (S.trans S3) L3 (hS.step S3) ?_
    have et : (xs.take (i + 1)).map g = (xs.take i).map g ++ [g a] := by rw [List.take_add_one, ha]; simp
    rw [et]
    refine (hv.step S3).append (.cons ?_ .nil)
    obtain ⟨fI, gI⟩ := S2.fr (I, oI) (.head _) (by show TA (own1 I) = true; rw [o1]; rfl)
    obtain ⟨fC, gC⟩ := S2.fr (C, oC) (.tail _ (.head _)) (by show TA (own1 C) = true; rw [o2]; rfl)
    obtain ⟨fD, gD⟩ := S2.fr (D, LCg.lst ys) (.tail _ (.tail _ (.head _))) (by show TA (own1 D) = true; rw [o3]; rfl)
    exact r.stepv ⟨fun _ _ h => h, fun _ _ h => h, rfl, rfl, fun p hp ht => ⟨k2 p hp (fun z => by rw [z, gI, o1] at ht; cases ht) (fun z => by rw [z, gC, o2] at ht; cases ht) (fun z => by rw [z, gD, o3] at ht; cases ht), rfl⟩⟩
theorem comp_restT {ct : Expr} {pz : V → Bool} {Fin : List Value → List (Addr × Obj) → Prop} {m : Str → Option Value} {s : Shared} {μ₀ : Mu} {own₀ : Addr → Tag} {news₀ : Led0}
    (hct : ∀ C a, a ∈ xs → EvC W c ρ C x a (isTrue ct (compEnvC scope cl C c.env) (eval ct (compEnvC scope cl C c.env))) EqR st (fun b => b = pz a))
    (hel : ∀ C a, a ∈ xs → EvC W c ρ C x a (eval elt (compEnvC scope cl C c.env)) VR st (fun b => b = g a))
    (hFin : ∀ ys μ own news, Stp TA μ₀ own₀ news₀ μ own news → Led W.prog W.w W.Cn W.Ct st μ own news → VRs μ own news ((xs.filter pz).map g) ys → Fin ys news) :
    ∀ (k i : Nat) (ys : List Value) (μ : Mu) (own : Addr → Tag) (news : Led0), k + i = xs.length → Stp TA μ₀ own₀ news₀ μ own news → Led W.prog W.w W.Cn W.Ct st μ own news → Src c ρ ax vs n xs μ own news → VRs μ own news (((xs.take i).filter pz).map g) ys →
      LCt.CompRestT W.prog W.w c.A c.h₀ c.L m c.env ct elt x scope cl s (LCg.SrcAt c.h₀ ax vs.toArray) (fun i v => vs.toArray[i]? = some v) Fin k i ys news := by
  intro k
  induction k with
  | zero =>
    intro i ys μ own news hi S L hS hv
    refine LCt.CompRestT.zero (hFin ys μ own news S L ?_)
    rw [List.take_of_length_le (by omega)] at hv; exact hv
  | succ k ih =>
    intro i ys μ own news hi S L hS hv
    refine LCt.CompRestT.succ fun v I oI C oC D m₂ h tk E' hP hNs hm F N off hne => ?_
    obtain ⟨own1, S1, R1, o1, o2, o3, o4⟩ := lay3 (s := { s with heap := h, toks := tk }) L off hne F N
    have hv' : vs[i]? = some v := by simpa using hP
    obtain ⟨a, ha⟩ : ∃ a, xs[i]? = some a := ⟨xs[i]'(by omega), by simp⟩
    have hmem : a ∈ xs := List.mem_of_getElem? ha
    have hB : Blk c ρ C x a μ own1 _ := (hS.step S1).blk (.tail _ (.head _)) o2 hNs hm hv' ha
    refine wpAny_mono (hct C a hmem _ μ own1 _ m R1 hB) (fun ok s' p => ?_) fun _ _ z => z.elim
    obtain ⟨b, st', μ', own', news', S2, R', r, e, rfl, rfl⟩ := p
    have r : pz a = ok := r
    cases hz : pz a with
    | true =>
      rw [hz] at r
      subst r
      simp only [if_true]
      refine wpAny_mono (hel C a hmem _ μ' own' _ m R' (hB.step S2)) (fun y s'' p => ?_) fun _ _ z => z.elim
      obtain ⟨b, st'', μ'', own'', news'', S4, R'', r, e', rfl, rfl⟩ := p
      have S5 := S2.trans S4
      refine end3 off o1 o2 o3 o4 S5 R'' (e.trans e') (fun news2 S3 => (hS.step S3).at) fun news2 S3 L3 k2 => ?_
      refine ih (i + 1) (ys ++ [y]) μ'' own'' news2 (by omega) (S.trans S3) L3 (hS.step S3) ?_
      have et : ((xs.take (i + 1)).filter pz).map g = ((xs.take i).filter pz).map g ++ [g a] := by rw [List.take_add_one, ha]; simp [hz]
      rw [et]
      refine (hv.step S3).append (.cons ?_ .nil)
      obtain ⟨fI, gI⟩ := S5.fr (I, oI) (.head _) (by show TA (own1 I) = true; rw [o1]; rfl)
      obtain ⟨fC, gC⟩ := S5.fr (C, oC) (.tail _ (.head _)) (by show TA (own1 C) = true; rw [o2]; rfl)
      obtain ⟨fD, gD⟩ := S5.fr (D, LCg.lst ys) (.tail _ (.tail _ (.head _))) (by show TA (own1 D) = true; rw [o3]; rfl)
      exact r.stepv ⟨fun _ _ h => h, fun _ _ h => h, rfl, rfl, fun p hp ht => ⟨k2 p hp (fun z => by rw [z, gI, o1] at ht; cases ht) (fun z => by rw [z, gC, o2] at ht; cases ht) (fun z => by rw [z, gD, o3] at ht; cases ht), rfl⟩⟩
    | false =>
      rw [hz] at r
      subst r
      simp only [Bool.false_eq_true, if_false]
      refine end3 off o1 o2 o3 o4 S2 R' e (fun news2 S3 => (hS.step S3).at) fun news2 S3 L3 k2 => ?_
      refine ih (i + 1) ys μ' own' news2 (by omega) (S.trans S3) L3 (hS.step S3) ?_
      have et : ((xs.take (i + 1)).filter pz).map g = ((xs.take i).filter pz).map g := by rw [List.take_add_one, ha]; simp [hz]
      rw [et]
      exact hv.step S3

theorem fl_end {ys : List Value} {zs : List V} {μ : Mu} {own : Addr → Tag} {news : Led0} {m : Str → Option Value} {s : Shared} {D : Addr} (L : Led W.prog W.w W.Cn W.Ct st μ own news) (hv : VRs μ own news zs ys)
    (F : Fr c.h₀ c.L s.heap m) (N : News c.h₀ c.L s.heap ((D, LCg.lst ys) :: news)) (o1 : LCg.Off1 D news) :
    Stp TA μ own news μ (ownAt own D .fz) ((D, LCg.lst ys) :: news) ∧ Rel W c st μ (ownAt own D .fz) ((D, LCg.lst ys) :: news) m s ∧ VR μ (ownAt own D .fz) ((D, LCg.lst ys) :: news) (.fl zs) (.ref D) := by
  have hf := off1_mem o1
  have S : Stp TA μ own news μ (ownAt own D .fz) ((D, LCg.lst ys) :: news) := Stp.grow hf
  exact ⟨S, ⟨F, N, L.grow hf⟩, .fl (n := ys.length) (.head _) ownAt_self (hv.step S)⟩

theorem src_of {d : Nat} {μ : Mu} {own : Addr → Tag} {news : Led0} {m : Str → Option Value} {s : Shared} {va : Value} (hR : Rel W c st μ own news m s) (hL : Loc c ρ m μ own news) (r : VR μ own news (.fl xs) va) :
    ∃ ax vs n, va = .ref ax ∧ Src c ρ ax vs n xs μ own news := by
  cases r
  rename_i a vs n h1 h2 h3
  exact ⟨a, vs, n, rfl, h1, h2, h3, hL.src⟩

theorem TriE_comp {d : Nat} {iter : Expr} {px pos : Pos} {Q : V → St → Prop} (ok : c.Ok W d)
    (hclos : closureFor scope c.env = pure cl) (hcell : ∀ y ∈ scope.names, y.2 ≠ .cell) (hkind : scope.kind = .function)
    (hnames : ∀ y ∈ scope.names, y.2 = .local → scope.names.lookup y.1 = some .local) (hx : scope.names.lookup x = some .local) (hs : ∀ x, foldedSetIterable iter c.env x = pure x)
    (h : TriE W c iter ρ st fun y st' => ∃ xs g, y = .fl xs ∧ xs.length ≤ 1000 ∧ (∀ C a, a ∈ xs → EvC W c ρ C x a (eval elt (compEnvC scope cl C c.env)) VR st' (fun b => b = g a)) ∧ Q (.fl (xs.map g)) st') :
    TriE W c (.ListComp elt [⟨.Name x px, iter, [], 0⟩] scope pos) ρ st Q := by
  intro s μ own news m hR hL
  refine LCg.ListComp_U hR.F hclos hcell hkind hnames hx (wpAny_then h hR hL fun va s' y st' μ' own' news' S R' L' r e q => ?_) hs
  obtain ⟨xs, g, rfl, hlen, hel, hq⟩ := q
  obtain ⟨ax, vs, n, rfl, hS⟩ := src_of (d := d) R' L' r
  have hl : xs.length = vs.length := hS.vr.length
  refine LCg.CompSrc.ledger ok.hh R'.F R'.N hS.mem (by rw [sizeLine_eq, List.size_toArray]; omega) fun gh => ?_
  rw [List.size_toArray, ← hl]
  refine comp_rest (μ₀ := μ') (own₀ := own') (news₀ := news') hel (fun ys μ2 own2 news2 S2 L2 hv D h tk F N o1 => ?_) xs.length 0 [] μ' own' news' (by omega) (Stp.refl ..) R'.D hS .nil
  obtain ⟨S3, R3, v3⟩ := fl_end (s := { s' with heap := h, toks := tk }) L2 hv F N o1
  exact ⟨.fl (xs.map g), st', μ2, _, _, S.trans (S2.trans S3), R3, v3, e.trans (Same.mk s' h tk), hq⟩
theorem TriX_comp {d : Nat} {iter : Expr} {y : Str} {px py pos spos : Pos} {Q : FV → Env0 → St → Prop} (ok : c.Ok W d) (hy : c.cs.names.lookup y = some .local)
    (hsw : swapsWith (.ListComp elt [⟨.Name x px, iter, [], 0⟩] scope pos) (some (.Name y py)) spos.line c.env = pure true)
    (hclos : closureFor scope c.env = pure cl) (hcell : ∀ y ∈ scope.names, y.2 ≠ .cell) (hkind : scope.kind = .function)
    (hnames : ∀ y ∈ scope.names, y.2 = .local → scope.names.lookup y.1 = some .local) (hx : scope.names.lookup x = some .local) (hs : ∀ x, foldedSetIterable iter c.env x = pure x)
    (h : TriE W c iter ρ st fun z st' => ∃ xs g, z = .fl xs ∧ xs.length ≤ 1000 ∧ (∀ C a, a ∈ xs → EvC W c ρ C x a (eval elt (compEnvC scope cl C c.env)) VR st' (fun b => b = g a)) ∧ Q .next (setL ρ y (.fl (xs.map g))) st') :
    TriX W c (.Assign [.Name y py] (.ListComp elt [⟨.Name x px, iter, [], 0⟩] scope pos) spos) ρ st Q := by
  intro s μ own news m hR hL
  refine LCg.Assign_ListComp_U hR.F rfl hsw hclos hcell hkind hnames hx hy (by show (c.cs.kind == .class || (c.cs.kind == .module && c.L != mainGlobals)) = false; rw [ok.hk]; rfl) (wpAny_then h hR hL fun va s' z st' μ' own' news' S R' L' r e q => ?_) hs
  obtain ⟨xs, g, rfl, hlen, hel, hq⟩ := q
  obtain ⟨ax, vs, n, rfl, hS⟩ := src_of (d := d) R' L' r
  have hl : xs.length = vs.length := hS.vr.length
  refine LCg.CompSrc.ledger ok.hh R'.F R'.N hS.mem (by rw [sizeLine_eq, List.size_toArray]; omega) fun gh => ?_
  rw [List.size_toArray, ← hl]
  refine comp_rest (μ₀ := μ') (own₀ := own') (news₀ := news') hel (fun ys μ2 own2 news2 S2 L2 hv D h tk F N o1 => ?_) xs.length 0 [] μ' own' news' (by omega) (Stp.refl ..) R'.D hS .nil
  obtain ⟨S3, R3, v3⟩ := fl_end (s := { s' with heap := h, toks := tk }) L2 hv F N o1
  exact ⟨.next, _, st', μ2, _, _, _, (S.trans (S2.trans S3)).AtoS, R3, (L'.step (S2.trans S3)).bind hy v3, .next, e.trans (Same.mk s' h tk), hq⟩
theorem TriX_compT {d : Nat} {ct iter : Expr} {y : Str} {px py pos spos : Pos} {Q : FV → Env0 → St → Prop} (ok : c.Ok W d) (hy : c.cs.names.lookup y = some .local)
    (hsw : swapsWith (.ListComp elt [⟨.Name x px, iter, [ct], 0⟩] scope pos) (some (.Name y py)) spos.line c.env = pure true)
    (hclos : closureFor scope c.env = pure cl) (hcell : ∀ y ∈ scope.names, y.2 ≠ .cell) (hkind : scope.kind = .function)
    (hnames : ∀ y ∈ scope.names, y.2 = .local → scope.names.lookup y.1 = some .local) (hx : scope.names.lookup x = some .local) (hs : ∀ x, foldedSetIterable iter c.env x = pure x)
    (h : TriE W c iter ρ st fun z st' => ∃ xs g pz, z = .fl xs ∧ xs.length ≤ 1000 ∧ (∀ C a, a ∈ xs → EvC W c ρ C x a (isTrue ct (compEnvC scope cl C c.env) (eval ct (compEnvC scope cl C c.env))) EqR st' (fun b => b = pz a)) ∧
      (∀ C a, a ∈ xs → EvC W c ρ C x a (eval elt (compEnvC scope cl C c.env)) VR st' (fun b => b = g a)) ∧ Q .next (setL ρ y (.fl ((xs.filter pz).map g))) st') :
    TriX W c (.Assign [.Name y py] (.ListComp elt [⟨.Name x px, iter, [ct], 0⟩] scope pos) spos) ρ st Q := by
  intro s μ own news m hR hL
  refine LCt.Assign_ListComp_T hR.F rfl hsw hclos hcell hkind hnames hx hy (by show (c.cs.kind == .class || (c.cs.kind == .module && c.L != mainGlobals)) = false; rw [ok.hk]; rfl) (wpAny_then h hR hL fun va s' z st' μ' own' news' S R' L' r e q => ?_) hs
  obtain ⟨xs, g, pz, rfl, hlen, hct, hel, hq⟩ := q
  obtain ⟨ax, vs, n, rfl, hS⟩ := src_of (d := d) R' L' r
  have hl : xs.length = vs.length := hS.vr.length
  refine LCt.CompSrcT.ledger ok.hh R'.F R'.N hS.mem (by rw [sizeLine_eq, List.size_toArray]; omega) fun gh => ?_
  rw [List.size_toArray, ← hl]
  refine comp_restT (μ₀ := μ') (own₀ := own') (news₀ := news') hct hel (fun ys μ2 own2 news2 S2 L2 hv D h tk F N o1 => ?_) xs.length 0 [] μ' own' news' (by omega) (Stp.refl ..) R'.D hS .nil
  obtain ⟨S3, R3, v3⟩ := fl_end (s := { s' with heap := h, toks := tk }) L2 hv F N o1
  exact ⟨.next, _, st', μ2, _, _, _, (S.trans (S2.trans S3)).AtoS, R3, (L'.step (S2.trans S3)).bind hy v3, .next, e.trans (Same.mk s' h tk), hq⟩
end
end
-- == M33
section
open PySem PySem.W PySem.Calls PyProof.Rows
set_option linter.unusedVariables false
set_option maxRecDepth 100000

section
variable {W : Wc} {c : Fc} {ρ : Env0} {st : St}

theorem Led.chgC {μ : Mu} {own : Addr → Tag} {news news' : Led0} {I : Addr} {prog : Program} {w : World} {Cn Ct : Addr} (D : Led prog w Cn Ct st μ own news) (hI : own I = .ce) (h : ∀ p ∈ news, p.1 ≠ I → p ∈ news') (hn : (news'.map (·.1)).Nodup) :
    Led prog w Cn Ct st μ own news' := by
  have S : StV μ own news μ own news' := ⟨fun _ _ h => h, fun _ _ h => h, rfl, rfl, fun p hp ht => ⟨h p hp (fun e => by rw [e, hI] at ht; cases ht), rfl⟩⟩
  have ne : ∀ {b t}, own b = t → t ≠ .ce → b ≠ I := fun e ht z => ht (by rw [← e, z, hI])
  refine ⟨hn, D.nlen, fun i p hp => ?_, D.ll, fun i b xs hb hx => ?_, ?_, ?_, D.fl, D.pl⟩
  · obtain ⟨h1, h2, h3, es, n, h4, h5⟩ := D.nd i p hp
    exact ⟨h1, h2, h _ h3 (ne h1 (by simp)), es, n, h _ h4 (ne h2 (by simp)), h5.stepv S⟩
  · obtain ⟨h1, vs, n, h2, h3⟩ := D.ls i b xs hb hx
    exact ⟨h1, vs, n, h _ h2 (ne h1 (by simp)), h3.stepv S⟩
  · obtain ⟨h1, h2, h3, es, n, h4, h5⟩ := D.tr
    exact ⟨h1, h2, h _ h3 (ne h1 (by simp)), es, n, h _ h4 (ne h2 (by simp)), h5.stepv S⟩
  · obtain ⟨h1, h2, o', kvs, h3, h4, h5⟩ := D.dc
    exact ⟨h1, h2, o', kvs, h _ h3 (ne h1 (by simp)), h4, h5.stepv S⟩
theorem updF_of_mem {d : Addr} {o : Obj} : ∀ {news : Led0}, (d, o) ∈ news → (news.map (·.1)).Nodup →
    ∃ g, UpdF d o news g ∧ ∀ o', (∀ p ∈ news, p.1 ≠ d → p ∈ g o') ∧ (d, o') ∈ g o' ∧ (g o').map (·.1) = news.map (·.1)
  | p :: r, hm, hn => by
    rw [List.map_cons, List.nodup_cons] at hn
    rcases List.mem_cons.mp hm with rfl | hm
    · refine ⟨fun o' => (d, o') :: r, .head (fun q hq e => hn.1 (e ▸ List.mem_map_of_mem (f := (·.1)) hq)), fun o' => ⟨fun q hq hne => ?_, .head _, rfl⟩⟩
      rcases List.mem_cons.mp hq with rfl | hq
      · exact absurd rfl hne
      · exact .tail _ hq
    · obtain ⟨g, U, h⟩ := updF_of_mem hm hn.2
      have hne : p.1 ≠ d := fun e => hn.1 (e ▸ List.mem_map_of_mem (f := (·.1)) hm)
      refine ⟨fun o' => p :: g o', .tail hne U, fun o' => ⟨fun q hq hq' => ?_, .tail _ (h o').2.1, by simp [(h o').2.2]⟩⟩
      rcases List.mem_cons.mp hq with rfl | hq
      · exact .head _
      · exact .tail _ ((h o').1 q hq hq')

/-- a cell's name is bound -/
theorem TriX_cellname {d : Nat} {x : Str} {e : Expr} {p p' : Pos} {a0 : V} {Q : FV → Env0 → St → Prop} (ok : c.Ok W d) (hk : c.cs.names.lookup x = some .cell) (h0 : ρ.lookup x = some a0)
    (hinj : ∀ y z a, c.cl.lookup y = some a → c.cl.lookup z = some a → y = z)
    (hs : swapsWith e (some (.Name x p')) p.line c.env = pure false) (h : TriE W c e ρ st fun v st' => Q .next (setL ρ x v) st') : TriX W c (.Assign [.Name x p'] e p) ρ st Q := by
  intro s μ own news m hR hL
  refine wpAny_Assign_Name (wpAny_then h hR hL fun v s' a st' μ' own' news' S R' L' r e' q => ?_) hs
  obtain ⟨ca, o, h1, h2, h3, h4⟩ := (L' x a0 h0).2 hk
  obtain ⟨g, U, hg⟩ := updF_of_mem h2 R'.D.nodup
  obtain ⟨v0, hd⟩ : ∃ v0, o.data = .cell v0 := by
    rcases h4 with ⟨_, hd⟩ | ⟨cv, hd, _⟩
    · exact ⟨_, hd⟩
    · exact ⟨_, hd⟩
  refine storeX_C R'.F R'.N h1 U hd (fun h' o' F' N' hd' => ?_) ok.hk hk
  obtain ⟨k1, k2, k3⟩ := hg o'
  have S2 : StV μ' own' news' μ' own' (g o') := ⟨fun _ _ h => h, fun _ _ h => h, rfl, rfl, fun p hp ht => ⟨k1 p hp (fun e => by rw [e, h3] at ht; cases ht), rfl⟩⟩
  have S3 : Stp TS μ' own' news' μ' own' (g o') := Stp.upd k1 k3 (by rw [h3]; rfl)
  refine ⟨.next, _, st', μ', own', g o', m, S.AtoS.trans S3, ⟨F', N', R'.D.chgC h3 k1 (k3 ▸ R'.D.nodup)⟩, ?_, .next, e'.trans rfl, q⟩
  intro y b ey
  rw [lookup_setL] at ey
  by_cases hyx : y = x
  · subst hyx
    rw [if_pos rfl] at ey
    cases ey
    exact ⟨fun k => (by rw [hk] at k; cases k), fun _ => ⟨ca, o', h1, k2, h3, .inr ⟨v, hd', r.stepv S2⟩⟩⟩
  · rw [if_neg hyx] at ey
    obtain ⟨g1, g2⟩ := L' y b ey
    refine ⟨fun k => let ⟨cv, a1, a2⟩ := g1 k; ⟨cv, a1, a2.stepv S2⟩, fun k => ?_⟩
    obtain ⟨cb, ob, f1, f2, f3, f4⟩ := g2 k
    exact ⟨cb, ob, f1, k1 _ f2 (fun z => hyx (hinj y x ca (by rw [f1]; exact congrArg some z) h1)), f3, f4.stepv S2⟩

theorem grow_cells {prog : Program} {w : World} {Cn Ct : Addr} {μ : Mu} {own : Addr → Tag} {news : Led0} (D : Led prog w Cn Ct st μ own news) : ∀ (cells : Led0), (cells.map (·.1)).Nodup → (∀ p ∈ cells, ∀ q ∈ news, q.1 ≠ p.1) →
    ∃ own', (∀ T, Stp T μ own news μ own' (cells ++ news)) ∧ Led prog w Cn Ct st μ own' (cells ++ news) ∧ ∀ p ∈ cells, own' p.1 = .ce
  | [], _, _ => ⟨own, fun _ => Stp.refl .., D, fun _ h => by cases h⟩
  | (a, o) :: r, hn, hd => by
    rw [List.map_cons, List.nodup_cons] at hn
    obtain ⟨own', S, L, h⟩ := grow_cells D r hn.2 fun p hp => hd p (.tail _ hp)
    have hf : ∀ p ∈ r ++ news, p.1 ≠ a := fun p hp e => by
      rcases List.mem_append.mp hp with hp | hp
      · exact hn.1 (e ▸ List.mem_map_of_mem (f := (·.1)) hp)
      · exact hd (a, o) (.head _) p hp e
    refine ⟨ownAt own' a .ce, fun T => (S T).trans (Stp.grow hf), L.grow hf, fun p hp => ?_⟩
    rcases List.mem_cons.mp hp with rfl | hp
    · exact ownAt_self
    · rw [ownAt_ne (hf p (List.mem_append_left _ hp))]; exact h p hp
theorem bindL_notin {K : Str → Option NameKind} {x : Str} : ∀ {bs : List (Str × Value)} {m : Str → Option Value}, x ∉ bs.map (·.1) → bindL K bs m x = m x
  | [], m, _ => rfl
  | (n, v) :: r, m, h => by
    simp only [List.map_cons, List.mem_cons, not_or] at h
    unfold bindL
    rw [bindL_notin h.2]
    split
    · exact if_neg h.1
    · rfl
theorem bindL_at {K : Str → Option NameKind} {x : Str} {v : Value} : ∀ {bs : List (Str × Value)} {m : Str → Option Value}, (bs.map (·.1)).Nodup → bs.lookup x = some v → K x = some .local → bindL K bs m x = some v
  | [], m, _, h, _ => by simp at h
  | (n, u) :: r, m, hn, h, hk => by
    rw [List.map_cons, List.nodup_cons] at hn
    rw [List.lookup_cons] at h
    unfold bindL
    by_cases e : x = n
    · subst e
      simp at h
      subst h
      rw [bindL_notin hn.1, if_pos hk, if_pos rfl]
    · rw [beq_eq_false_iff_ne.mpr e] at h
      exact bindL_at hn.2 h hk
theorem bindC_notin {K : Str → Option NameKind} {x : Str} : ∀ {bs : List (Str × Value)} {m : Str → Option Value}, x ∉ bs.map (·.1) → bindC K bs m x = m x
  | [], m, _ => rfl
  | (n, v) :: r, m, h => by
    simp only [List.map_cons, List.mem_cons, not_or] at h
    unfold bindC
    rw [bindC_notin h.2]
    split
    · rfl
    · exact if_neg h.1
theorem bindC_at {K : Str → Option NameKind} {x : Str} {v : Value} : ∀ {bs : List (Str × Value)} {m : Str → Option Value}, (bs.map (·.1)).Nodup → bs.lookup x = some v → K x = some .cell → bindC K bs m x = some v
  | [], m, _, h, _ => by simp at h
  | (n, u) :: r, m, hn, h, hk => by
    rw [List.map_cons, List.nodup_cons] at hn
    rw [List.lookup_cons] at h
    unfold bindC
    by_cases e : x = n
    · subst e
      simp at h
      subst h
      rw [bindC_notin hn.1, if_neg (by rw [hk]; decide), if_pos rfl]
    · rw [beq_eq_false_iff_ne.mpr e] at h
      exact bindC_at hn.2 h hk
theorem cellsAre_at {cm : Str → Option Value} {cl : List (Str × Addr)} {cells : Led0} (Y : CellsAre cm cl cells) {y : Str} {ca : Addr} (h : cl.lookup y = some ca) : ∃ o, (ca, o) ∈ cells ∧ o.data = .cell (cm y) := by
  induction Y with
  | nil => simp at h
  | @cons n c o cs cells hd _ ih =>
    rw [List.lookup_cons] at h
    by_cases e : y = n
    · subst e
      simp at h
      subst h
      exact ⟨o, .head _, hd⟩
    · rw [beq_eq_false_iff_ne.mpr e] at h
      obtain ⟨o', h1, h2⟩ := ih h
      exact ⟨o', .tail _ h1, h2⟩
theorem cellsAre_fst {cm : Str → Option Value} {cl : List (Str × Addr)} {cells : Led0} (Y : CellsAre cm cl cells) : cells.map (·.1) = cl.map (·.2) := by
  induction Y with
  | nil => rfl
  | cons _ _ ih => simp [ih]
theorem cellsFrom_snd : ∀ {names : List (Str × NameKind)} {n : Nat} {acc : List (Str × Addr)}, (acc.map (·.2)).Nodup → (∀ p ∈ acc, @LT.lt Nat _ p.2 n) → ((cellsFrom n names acc).map (·.2)).Nodup ∧ ∀ b, (∀ p ∈ acc, @LE.le Nat _ b p.2) → b ≤ n → ∀ p ∈ cellsFrom n names acc, @LE.le Nat _ b p.2
  | [], n, acc, h, _ => ⟨h, fun b hb _ => hb⟩
  | (name, kind) :: r, n, acc, h, hl => by
    unfold cellsFrom
    split
    · obtain ⟨h1, h2⟩ := cellsFrom_snd (names := r) (n := n + 1) (acc := (name, n) :: acc) (by
        rw [List.map_cons, List.nodup_cons]
        refine ⟨fun hm => ?_, h⟩
        obtain ⟨p, hp, e⟩ := List.mem_map.mp hm
        have := hl p hp
        rw [e] at this
        exact Nat.lt_irrefl _ this) (fun p hp => by
        rcases List.mem_cons.mp hp with rfl | hp
        · exact Nat.lt_succ_self _
        · exact Nat.lt_succ_of_lt (hl p hp))
      refine ⟨h1, fun b hb hn => h2 b (fun p hp => ?_) (Nat.le_succ_of_le hn)⟩
      rcases List.mem_cons.mp hp with rfl | hp
      · exact hn
      · exact hb p hp
    · exact cellsFrom_snd h hl

theorem FnOK.of_bodyC {d : Nat} {f : Addr} {nm : Str} {params : Arguments} {body : List Stmt} {scope : Scope} {spec : FnSpec} {ns us : List Str} (hf : FnAt W.K f nm params body scope)
    (hbind : ∀ doc pm an cdv ct, ∀ vs : List Value, vs.length = ns.length → bindArgs (fnOf nm nm params body scope .none .none doc pm an cdv ct) ⟨vs, []⟩ = pure (ns.zip vs))
    (hns : ns.Nodup) (hloc : ∀ n, ∀ x ∈ ns, scope.names.lookup x = some .local ∨ (scope.names.lookup x = some .cell ∧ ((cellsFrom n scope.names []).lookup x).isSome = true)) (hsl : ∀ xs st Q, spec xs st Q → xs.length = ns.length)
    (hus : ∀ n, ∀ x ∈ us, x ∉ ns ∧ scope.names.lookup x = some .cell ∧ ((cellsFrom n scope.names []).lookup x).isSome = true) (hnd : ((cellsFrom 0 scope.names []).map (·.1)).Nodup)
    (h : ∀ (c : Fc) (st : St) (xs : List V) (Q : V → St → Prop) (n : Nat), c.Ok W d → c.cs = scope → c.cl = cellsFrom n scope.names [] → spec xs st Q → TriS W c body (ns.zip xs ++ us.map fun u => (u, V.un)) st (LeaveQ st.lists.length Q))
    (hco : scope.isCoroutine = false) (hgen : scope.isGenerator = false) (hk : scope.kind = .function) : FnOK W d f spec := by
  intro c st xs Q ok hs s μ own news m hR vs hv
  obtain ⟨doc, pm, cdv, ct, oc, an, od, osl, hl, hcd⟩ := hf.ex
  have hlen : vs.length = ns.length := hv.length.symm.trans (hsl xs st Q hs)
  have hzn : (ns.zip vs).map (·.1) = ns := List.map_fst_zip (by omega)
  refine wpAny_call ?_
  have XH : W.K.In s.heap := ok.X.keeps hR.F.keep
  refine callX_cells ok.B hR.F hR.N ok.T.nolimit ok.hA rfl ok.hk (XH _ _ hl) rfl (codeRec_of XH hcd) (by have := ok.dep; show c.A.depth < 1000; omega)
    (BindsTo.of_eq (hbind doc pm an cdv ct vs hlen)) (fun n y hy => hloc n _ (List.of_mem_zip hy).1) hnd (fun g L' h₁ tk cells FG F' N' Y B' hst hbelow => ?_) hco hgen hk
  let c' : Fc := { A := c.A.deeper (envX nm scope L' f cdv (cellsFrom (L' + 1) scope.names [])), A₀ := c.A, base := c.base, h₀ := g, outer := c.env :: c.outer, cn := nm, cs := scope, L := L', a := f, ccd := cdv, cl := cellsFrom (L' + 1) scope.names [] }
  have ok' : c'.Ok W d := ⟨B', Around.frames_deeper ok.hA, hk, ok.X.keeps hst, ok.T.keeps hst, ok.hh,
    by have := ok.dep; show c.A.depth + 1 + d ≤ 400; omega, by have := ok.uni; show c.A.units + 3 + 8 * d ≤ 1000; omega⟩
  have body := h c' st xs Q (L' + 1) ok' rfl rfl hs
  have hsnd := cellsFrom_snd (names := scope.names) (n := L' + 1) (acc := []) (by simp) (fun _ h => by cases h)
  have hfst := cellsAre_fst Y
  obtain ⟨own1, S1, L1, hce⟩ := grow_cells hR.D.own0 cells (hfst ▸ hsnd.1) fun p hp q hq e => by
    have h1 := hbelow q hq
    have h2 : p.1 ∈ (cellsFrom (L' + 1) scope.names []).map (·.2) := hfst ▸ List.mem_map_of_mem (f := (·.1)) hp
    obtain ⟨r, hr, er⟩ := List.mem_map.mp h2
    have h3 := hsnd.2 (L' + 1) (fun _ h => by cases h) (Nat.le_refl _) r hr
    rw [er, ← e] at h3
    exact absurd h1 (Nat.not_lt.mpr (Nat.le_of_succ_le h3))
  have R' : Rel W c' st μ own1 (cells ++ news) (bindL (envOfC nm scope L' f cdv).kindOf (ns.zip vs) fun _ => none) { s with heap := h₁, toks := tk } := ⟨F', N', L1⟩
  have L0 : Loc c' (ns.zip xs ++ us.map fun u => (u, V.un)) (bindL (envOfC nm scope L' f cdv).kindOf (ns.zip vs) fun _ => none) μ own1 (cells ++ news) := by
    intro x a e
    rw [List.lookup_append] at e
    have cellAt : ∀ z, scope.names.lookup x = some .cell → ((cellsFrom (L' + 1) scope.names []).lookup x).isSome = true → bindC (envOfC nm scope L' f cdv).kindOf (ns.zip vs) (fun _ => none) x = z → ∃ ca o, c'.cl.lookup x = some ca ∧ (ca, o) ∈ cells ++ news ∧ own1 ca = .ce ∧ o.data = .cell z := by
      intro z _ hsome hz
      obtain ⟨ca, hca⟩ := Option.isSome_iff_exists.mp hsome
      obtain ⟨o, h1, h2⟩ := cellsAre_at Y hca
      exact ⟨ca, o, hca, List.mem_append_left _ h1, hce _ h1, by rw [h2, hz]⟩
    cases e1 : (ns.zip xs).lookup x with
    | some b =>
      rw [e1] at e
      cases e
      obtain ⟨v, e2, e3⟩ := hv.zipLookup x a e1
      have hmem : x ∈ ns := by have := mem_of_lookup e1; exact (List.of_mem_zip this).1
      have v1 : VR μ own1 (cells ++ news) a v := (e3.step Stp.own0V).step (S1 TV)
      refine ⟨fun k => ⟨v, bindL_at (by rw [hzn]; exact hns) e2 k, v1⟩, fun k => ?_⟩
      have hsome : ((cellsFrom (L' + 1) scope.names []).lookup x).isSome = true := by
        rcases hloc (L' + 1) x hmem with h1 | ⟨_, h1⟩
        · have k : scope.names.lookup x = some .cell := k
          rw [h1] at k; cases k
        · exact h1
      obtain ⟨ca, o, h1, h2, h3, h4⟩ := cellAt (some v) k hsome (bindC_at (by rw [hzn]; exact hns) e2 k)
      exact ⟨ca, o, h1, h2, h3, .inr ⟨v, h4, v1⟩⟩
    | none =>
      rw [e1] at e
      have hm := mem_of_lookup (show (us.map fun u => (u, V.un)).lookup x = some a from e)
      obtain ⟨u, hu, e4⟩ := List.mem_map.mp hm
      cases e4
      obtain ⟨h1, h2, h3⟩ := hus (L' + 1) x hu
      refine ⟨fun k => (by have k : scope.names.lookup x = some .local := k; rw [h2] at k; cases k), fun k => ?_⟩
      obtain ⟨ca, o, h1, h2, h3, h4⟩ := cellAt none h2 h3 (bindC_notin (by rw [hzn]; exact h1))
      exact ⟨ca, o, h1, h2, h3, .inl ⟨rfl, h4⟩⟩
  refine wpAny_mono (body _ μ own1 (cells ++ news) _ R' L0) (fun fl s' p => ?_) fun _ _ z => z.elim
  obtain ⟨fv, ρ', st', μ', own', news', m', S, R'', L'', r, e, q⟩ := p
  have S0 : Stp TS μ (own0 own) news μ' own' news' := (S1 TS).trans S
  have fin : ∀ {v : V} {cv : Value}, VR μ' own' news' v cv → retOK st.lists.length st' v → Q (leaveV st' v) (leaveSt st.lists.length st') → LeaveK c.h₀ c.L m g (fun r s' => match r with | .ok (.ret v) => Post W c TA VR μ own news m s Q v s' | .ok _ => False | .error e => False) cv s' := by
    intro v cv hv' hr hq
    obtain ⟨μ2, own2, S2, D2, v2, -⟩ := leave_all hR.D S0 R''.D hv' hr
    exact leaveK_ R''.F R''.N fun kF kN => ⟨leaveV st' v, leaveSt st.lists.length st', μ2, own2, news', S2, ⟨kF, kN, D2⟩, v2, (Same.mk s _ _).trans e, hq⟩
  cases r with
  | next => exact fin .none rfl q
  | brk => exact q.elim
  | cont => exact q.elim
  | ret hv' => exact fin hv' q.1 q.2
end
end
-- == M34
section
open PySem PySem.W PySem.Calls PyProof.Rows
set_option linter.unusedVariables false
set_option maxRecDepth 100000

/-- a tree of questions, each answered by d -/
noncomputable def KW {α : Type} (n : Nat) (d : Nat → Nat → Bool) : KasT α → (α → Prop) → Prop
  | .ret a, Q => Q a
  | .ask i j k, Q => i < n ∧ j < n ∧ KW n d (k (d i j)) Q
theorem KW.mono {α : Type} {n : Nat} {d : Nat → Nat → Bool} {Q Q' : α → Prop} (hq : ∀ a, Q a → Q' a) : ∀ {t : KasT α}, KW n d t Q → KW n d t Q'
  | .ret a, h => hq a h
  | .ask i j k, h => ⟨h.1, h.2.1, KW.mono hq (t := k (d i j)) h.2.2⟩
theorem KW.bind {α β : Type} {n : Nat} {d : Nat → Nat → Bool} {f : α → KasT β} {Q : β → Prop} : ∀ {t : KasT α}, KW n d t (fun a => KW n d (f a) Q) → KW n d (t.bind f) Q
  | .ret a, h => h
  | .ask i j k, h => ⟨h.1, h.2.1, KW.bind (t := k (d i j)) h.2.2⟩
theorem KW.wp {α : Type} {n : Nat} {d : Nat → Nat → Bool} {cmp : Nat → Nat → (Bool → Shared → Prop) → Shared → Prop} {s : Shared} (hc : ∀ i j C, i < n → j < n → C (d i j) s → cmp i j C s) {Q : α → Shared → Prop} : ∀ {t : KasT α}, KW n d t (fun a => Q a s) → t.kasWp cmp Q s
  | .ret a, h => h
  | .ask i j k, h => hc i j _ h.1 h.2.1 (KW.wp hc (t := k (d i j)) h.2.2)

section
variable {n : Nat} {key : Nat → Int}
noncomputable def dk (key : Nat → Int) (i j : Nat) : Bool := decide (key i < key j)
/-- a permutation of the first n numbers -/
structure Pm (n : Nat) (p : Array Nat) : Prop where
  pm : p.toList.Perm (List.range n)
noncomputable def at' (p : Array Nat) (i : Nat) : Nat := p.getD i 0
theorem Pm.size {p : Array Nat} (h : Pm n p) : p.size = n := by have := h.pm.length_eq; simpa using this
theorem Pm.get {p : Array Nat} (h : Pm n p) {i : Nat} (hi : i < n) : p[i]? = some (at' p i) := by
  have : i < p.size := by rw [h.size]; exact hi
  simp [at', Array.getD, this]
theorem Pm.lt {p : Array Nat} (h : Pm n p) {i : Nat} (hi : i < n) : at' p i < n := by
  have h1 := h.get hi
  have h2 : at' p i ∈ p.toList := by
    rw [Array.getElem?_eq_some_iff] at h1
    obtain ⟨h1, h2⟩ := h1
    rw [← h2]; exact Array.getElem_mem_toList h1
  exact List.mem_range.mp (h.pm.mem_iff.mp h2)
theorem Pm.inj {p : Array Nat} (h : Pm n p) {i j : Nat} (hi : i < n) (hj : j < n) (e : at' p i = at' p j) : i = j := by
  have hn : p.toList.Nodup := h.pm.nodup_iff.mpr List.nodup_range
  have h1 := h.get hi
  have h2 := h.get hj
  rw [← e] at h2
  have hs := h.size
  have a1 : p.toList[i]? = some (at' p i) := by simpa using h1
  have a2 : p.toList[j]? = some (at' p i) := by simpa using h2
  exact (List.getElem?_inj (by simp [hs]; exact hi) hn).mp (a1.trans a2.symm)
theorem Pm.rev {p : Array Nat} (h : Pm n p) (i j : Nat) : Pm n (kas_rev p i j) := ⟨((mirror_perm p i j _).toList).trans h.pm⟩
theorem Pm.bub {p : Array Nat} (h : Pm n p) (i j : Nat) : Pm n (bubble p i j) := ⟨((bubble_perm p i j).toList).trans h.pm⟩
noncomputable def Asc (key : Nat → Int) (p : Array Nat) (m : Nat) : Prop := ∀ i j, i < j → j < m → key (at' p i) < key (at' p j)
noncomputable def Dsc (key : Nat → Int) (p : Array Nat) (m : Nat) : Prop := ∀ i j, i < j → j < m → key (at' p j) < key (at' p i)
theorem Asc.snoc {p : Array Nat} {m : Nat} (h : Asc key p m) (hm : 1 ≤ m) (hl : key (at' p (m - 1)) < key (at' p m)) : Asc key p (m + 1) := by
  intro i j hij hj
  by_cases e : j = m
  · subst e
    by_cases e2 : i = j - 1
    · subst e2; exact hl
    · exact Int.lt_trans (h i (j - 1) (Nat.lt_of_le_of_ne (Nat.le_sub_one_of_lt hij) e2) (Nat.sub_one_lt (Nat.ne_of_gt hm))) hl
  · exact h i j hij (Nat.lt_of_le_of_ne (Nat.le_of_lt_succ hj) e)
theorem Dsc.snoc {p : Array Nat} {m : Nat} (h : Dsc key p m) (hm : 1 ≤ m) (hl : key (at' p m) < key (at' p (m - 1))) : Dsc key p (m + 1) := by
  intro i j hij hj
  by_cases e : j = m
  · subst e
    by_cases e2 : i = j - 1
    · subst e2; exact hl
    · exact Int.lt_trans hl (h i (j - 1) (Nat.lt_of_le_of_ne (Nat.le_sub_one_of_lt hij) e2) (Nat.sub_one_lt (Nat.ne_of_gt hm)))
  · exact h i j hij (Nat.lt_of_le_of_ne (Nat.le_of_lt_succ hj) e)
variable (hk : ∀ i j, i < n → j < n → key i = key j → i = j)
include hk
theorem Pm.ne {p : Array Nat} (h : Pm n p) {i j : Nat} (hi : i < n) (hj : j < n) (hij : i ≠ j) : key (at' p i) ≠ key (at' p j) := fun e => hij (h.inj hi hj (hk _ _ (h.lt hi) (h.lt hj) e))
omit hk in
theorem ilt {a b : Int} (h : a ≤ b) (k : a ≠ b) : a < b := Int.lt_iff_le_and_ne.mpr ⟨h, k⟩
omit hk in
theorem up {m f n : Nat} (h : m + (f + 1) = n) : m < n ∧ m + 1 + f = n := ⟨h ▸ Nat.lt_add_of_pos_right (Nat.succ_pos f), (Nat.add_right_comm m 1 f).trans h⟩
theorem asc_KW {p : Array Nat} (h : Pm n p) : ∀ (f m : Nat), 1 ≤ m → m + f = n → Asc key p m → KW n (dk key) (kas_asc p f m) (fun r => m ≤ r ∧ r ≤ n ∧ Asc key p r ∧ (r < n → key (at' p r) < key (at' p (r - 1)))) := by
  intro f
  induction f with
  | zero => intro m h1 h2 h3; exact ⟨Nat.le_refl _, Nat.le_of_eq h2, h3, fun h => absurd (Nat.lt_of_lt_of_eq h h2.symm) (Nat.lt_irrefl m)⟩
  | succ f ih =>
    intro m h1 h2 h3
    obtain ⟨mn, h2⟩ := up h2
    have pn : m - 1 < n := Nat.lt_of_le_of_lt (Nat.sub_le m 1) mn
    refine ⟨h.lt (i := m) mn, h.lt (i := m - 1) pn, ?_⟩
    by_cases e : key (at' p m) < key (at' p (m - 1))
    · have : dk key (p.getD m 0) (p.getD (m - 1) 0) = true := decide_eq_true e
      rw [this]
      show KW _ _ (if true = true then _ else _) _
      rw [if_pos rfl]
      exact ⟨Nat.le_refl _, Nat.le_of_lt mn, h3, fun _ => e⟩
    · have : dk key (p.getD m 0) (p.getD (m - 1) 0) = false := decide_eq_false e
      rw [this]
      show KW _ _ (if false = true then _ else _) _
      rw [if_neg Bool.false_ne_true]
      have ne := h.ne hk (i := m) (j := m - 1) mn pn (Nat.ne_of_gt (Nat.sub_one_lt (Nat.ne_of_gt h1)))
      exact (ih (m + 1) (Nat.le_add_left 1 m) h2 (h3.snoc h1 (ilt (Int.not_lt.mp e) (Ne.symm ne)))).mono fun r hr => ⟨Nat.le_of_succ_le hr.1, hr.2⟩
theorem desc_KW {p : Array Nat} (h : Pm n p) : ∀ (f m : Nat), 1 ≤ m → m + f = n → Dsc key p m → KW n (dk key) (kas_desc f p m 0) (fun r => r.1 = p ∧ m ≤ r.2.1 ∧ r.2.1 ≤ n ∧ r.2.2 = 0 ∧ Dsc key p r.2.1) := by
  intro f
  induction f with
  | zero => intro m h1 h2 h3; exact ⟨rfl, Nat.le_refl _, Nat.le_of_eq h2, rfl, h3⟩
  | succ f ih =>
    intro m h1 h2 h3
    obtain ⟨mn, h2⟩ := up h2
    have pn : m - 1 < n := Nat.lt_of_le_of_lt (Nat.sub_le m 1) mn
    refine ⟨h.lt (i := m) mn, h.lt (i := m - 1) pn, ?_⟩
    by_cases e : key (at' p m) < key (at' p (m - 1))
    · have : dk key (p.getD m 0) (p.getD (m - 1) 0) = true := decide_eq_true e
      rw [this]
      show KW _ _ (if true = true then _ else _) _
      rw [if_pos rfl, if_neg (Nat.lt_irrefl 0)]
      exact (ih (m + 1) (Nat.le_add_left 1 m) h2 (h3.snoc h1 e)).mono fun r hr => ⟨hr.1, Nat.le_of_succ_le hr.2.1, hr.2.2⟩
    · have : dk key (p.getD m 0) (p.getD (m - 1) 0) = false := decide_eq_false e
      rw [this]
      show KW _ _ (if false = true then _ else _) _
      rw [if_neg Bool.false_ne_true]
      have ne := h.ne hk (i := m) (j := m - 1) mn pn (Nat.ne_of_gt (Nat.sub_one_lt (Nat.ne_of_gt h1)))
      have : dk key (p.getD (m - 1) 0) (p.getD m 0) = true := decide_eq_true (show key (at' p (m - 1)) < key (at' p m) from ilt (Int.not_lt.mp e) (Ne.symm ne))
      refine ⟨h.lt (i := m - 1) pn, h.lt (i := m) mn, ?_⟩
      rw [this]
      show KW _ _ (if true = true then _ else _) _
      rw [if_pos rfl]
      exact ⟨rfl, Nat.le_refl _, Nat.le_of_lt mn, rfl, h3⟩
omit hk in
theorem rv {m k : Nat} (hk : k < m) : m - 1 - k < m := Nat.lt_of_le_of_lt (Nat.sub_le _ _) (Nat.sub_one_lt (Nat.ne_of_gt (Nat.zero_lt_of_lt hk)))
omit hk in
theorem rev_at {p : Array Nat} (h : Pm n p) {m : Nat} (hm : m ≤ n) {k : Nat} (hk : k < m) : at' (kas_rev p 0 m) k = at' p (m - 1 - k) := by
  have h1 := getElem?_mirror_all (xs := p) (i := 0) (j := m) (by rw [h.size]; exact hm) k
  rw [if_pos ⟨Nat.zero_le _, hk⟩] at h1
  rw [Nat.zero_add] at h1
  have h2 : (kas_rev p 0 m)[k]? = p[m - 1 - k]? := h1
  rw [(h.rev 0 m).get (Nat.lt_of_lt_of_le hk hm), h.get (Nat.lt_of_lt_of_le (rv hk) hm)] at h2
  exact Option.some.inj h2
theorem tail3_KW {p : Array Nat} (h : Pm n p) {m : Nat} (h1 : 1 ≤ m) (hm : m ≤ n) (hd : Dsc key p m) : KW n (dk key) (kas_tail3 m n p) (fun r => 1 ≤ r.1 ∧ r.1 ≤ n ∧ Pm n r.2 ∧ Asc key r.2 r.1) := by
  refine KW.bind ?_
  have ha : Asc key (kas_rev p 0 m) m := fun i j hij hj => by
    rw [rev_at h hm (Nat.lt_trans hij hj), rev_at h hm hj]
    exact hd _ _ (Nat.sub_lt_sub_left (Nat.lt_of_lt_of_le hij (Nat.le_sub_one_of_lt hj)) hij) (rv (Nat.lt_trans hij hj))
  exact (asc_KW hk (h.rev 0 m) (n - m) m h1 (Nat.add_sub_of_le hm) ha).mono fun r hr => ⟨Nat.le_trans h1 hr.1, hr.2.1, h.rev 0 m, hr.2.2.1⟩
theorem count_KW {p : Array Nat} (h : Pm n p) (hn : 2 ≤ n) : KW n (dk key) (kas_count n p) (fun r => 1 ≤ r.1 ∧ r.1 ≤ n ∧ Pm n r.2 ∧ Asc key r.2 r.1) := by
  have n0 : 0 < n := Nat.lt_of_succ_le (Nat.le_of_succ_le hn)
  refine KW.bind ?_
  refine (asc_KW hk h (n - 1) 1 (Nat.le_refl 1) (Nat.add_sub_of_le (Nat.le_of_succ_le hn)) (fun i j a b => absurd (Nat.lt_of_lt_of_le a (Nat.le_of_lt_succ b)) (Nat.not_lt_zero i))).mono fun m hm => ?_
  obtain ⟨h1, h2, h3, h4⟩ := hm
  by_cases e : m = n
  · rw [if_pos (by simpa using e)]
    exact ⟨h1, h2, h, h3⟩
  · rw [if_neg (by simpa using e)]
    by_cases e2 : m > 1
    · rw [if_pos e2]
      have : dk key (p.getD 0 0) (p.getD (m - 1) 0) = true := decide_eq_true (h3 0 (m - 1) (Nat.sub_pos_of_lt e2) (Nat.sub_one_lt (Nat.ne_of_gt h1)))
      refine ⟨h.lt (i := 0) n0, h.lt (i := m - 1) (Nat.lt_of_lt_of_le (Nat.sub_one_lt (Nat.ne_of_gt h1)) h2), ?_⟩
      rw [this]
      show KW _ _ (if true = true then _ else _) _
      rw [if_pos rfl]
      exact ⟨h1, h2, h, h3⟩
    · rw [if_neg e2]
      have e3 : m = 1 := Nat.le_antisymm (Nat.not_lt.mp e2) h1
      subst e3
      refine KW.bind ?_
      have hd : Dsc key p 2 := fun i j hij hj => by
        match i, j, hij, hj with
        | 0, 1, _, _ => exact h4 hn
        | i + 1, j + 1, a, b => exact absurd (Nat.lt_of_lt_of_le (Nat.lt_of_succ_lt_succ a) (Nat.le_of_lt_succ (Nat.lt_of_succ_lt_succ b))) (Nat.not_lt_zero i)
      refine (desc_KW hk h (n - 2) 2 (Nat.le_succ 1) (Nat.add_sub_of_le hn) hd).mono fun r hr => ?_
      obtain ⟨g1, g2, g3, g4, g5⟩ := hr
      rw [if_neg (by rw [g4]; exact Nat.lt_irrefl 0), g1]
      exact tail3_KW hk h (Nat.le_of_succ_le g2) g3 g5
omit hk in
theorem mid {l r : Nat} (h : l < r) : l ≤ (l + r) / 2 ∧ (l + r) / 2 < r :=
  ⟨(Nat.le_div_iff_mul_le (Nat.succ_pos 1)).mpr (Nat.mul_two l ▸ Nat.add_le_add_left (Nat.le_of_lt h) l), (Nat.div_lt_iff_lt_mul (Nat.succ_pos 1)).mpr (Nat.mul_two r ▸ Nat.add_lt_add_right h r)⟩
theorem place_KW {p : Array Nat} (h : Pm n p) {k : Nat} (hkn : k < n) (ha : Asc key p k) : ∀ (f l r : Nat), l ≤ r → r ≤ k → r - l ≤ f → (∀ i, i < l → key (at' p i) < key (at' p k)) → (∀ i, r ≤ i → i < k → key (at' p k) < key (at' p i)) →
    KW n (dk key) (kas_place p k f l r) (fun m => m ≤ k ∧ (∀ i, i < m → key (at' p i) < key (at' p k)) ∧ (∀ i, m ≤ i → i < k → key (at' p k) < key (at' p i))) := by
  intro f
  induction f with
  | zero =>
    intro l r h1 h2 h3 h4 h5
    exact ⟨Nat.le_trans h1 h2, h4, fun i hi hj => h5 i (Nat.le_trans (Nat.le_of_sub_eq_zero (Nat.le_zero.mp h3)) hi) hj⟩
  | succ f ih =>
    intro l r h1 h2 h3 h4 h5
    unfold kas_place
    by_cases e : l ≥ r
    · rw [if_pos e]
      exact ⟨Nat.le_trans h1 h2, h4, fun i hi hj => h5 i (Nat.le_trans e hi) hj⟩
    · rw [if_neg e]
      have hlt := Nat.lt_of_not_ge e
      obtain ⟨ml, mr⟩ := mid hlt
      have mk := Nat.lt_of_lt_of_le mr h2
      refine ⟨h.lt (i := k) hkn, h.lt (i := (l + r) / 2) (Nat.lt_trans mk hkn), ?_⟩
      by_cases e2 : key (at' p k) < key (at' p ((l + r) / 2))
      · have : dk key (p.getD k 0) (p.getD ((l + r) / 2) 0) = true := decide_eq_true e2
        rw [this]
        show KW _ _ (if true = true then _ else _) _
        rw [if_pos rfl]
        refine ih l ((l + r) / 2) ml (Nat.le_of_lt mk) (Nat.le_of_lt_succ (Nat.lt_of_lt_of_le (Nat.sub_lt_sub_right ml mr) h3)) h4 fun i hi hj => ?_
        by_cases e3 : i = (l + r) / 2
        · subst e3; exact e2
        · exact Int.lt_trans e2 (ha _ _ (Nat.lt_of_le_of_ne hi (Ne.symm e3)) hj)
      · have : dk key (p.getD k 0) (p.getD ((l + r) / 2) 0) = false := decide_eq_false e2
        rw [this]
        show KW _ _ (if false = true then _ else _) _
        rw [if_neg Bool.false_ne_true]
        have ne := h.ne hk (i := k) (j := (l + r) / 2) hkn (Nat.lt_trans mk hkn) (Nat.ne_of_gt mk)
        have e4 : key (at' p ((l + r) / 2)) < key (at' p k) := ilt (Int.not_lt.mp e2) (Ne.symm ne)
        refine ih ((l + r) / 2 + 1) r mr h2 (Nat.le_of_lt_succ (Nat.lt_of_lt_of_le (Nat.sub_lt_sub_left hlt (Nat.lt_succ_of_le ml)) h3)) (fun i hi => ?_) h5
        by_cases e3 : i = (l + r) / 2
        · subst e3; exact e4
        · exact Int.lt_trans (ha _ _ (Nat.lt_of_le_of_ne (Nat.le_of_lt_succ hi) e3) mk) e4
omit hk in
theorem bub_at {p : Array Nat} (h : Pm n p) {k t : Nat} (hkn : k < n) (ht : t ≤ k) {i : Nat} (hi : i < n) : at' (bubble p k t) i = if i = k - t then at' p k else if k - t < i ∧ i ≤ k then at' p (i - 1) else at' p i := by
  have h1 := getElem?_bubble (xs := p) (src := k) (by rw [h.size]; exact hkn) t ht i
  rw [(h.bub k t).get hi] at h1
  split at h1
  · rename_i e; rw [if_pos e, h.get hkn] at *; exact Option.some.inj h1
  · rename_i e
    split at h1
    · rename_i e2; rw [if_neg e, if_pos e2]; rw [h.get (by omega)] at h1; exact Option.some.inj h1
    · rename_i e2; rw [if_neg e, if_neg e2]; rw [h.get hi] at h1; exact Option.some.inj h1
omit hk in
theorem bub_lo {p : Array Nat} (h : Pm n p) {k m : Nat} (hkn : k < n) (hm : m ≤ k) : at' (bubble p k (k - m)) m = at' p k := by
  rw [bub_at h hkn (Nat.sub_le k m) (Nat.lt_of_le_of_lt hm hkn), Nat.sub_sub_self hm, if_pos rfl]
omit hk in
theorem bub_hi {p : Array Nat} (h : Pm n p) {k m i : Nat} (hkn : k < n) (hm : m ≤ k) (hi : i ≤ k) (hne : i ≠ m) : at' (bubble p k (k - m)) i = at' p (if m < i then i - 1 else i) := by
  rw [bub_at h hkn (Nat.sub_le k m) (Nat.lt_of_le_of_lt hi hkn), Nat.sub_sub_self hm, if_neg hne]
  by_cases e : m < i
  · rw [if_pos ⟨e, hi⟩, if_pos e]
  · rw [if_neg fun q => e q.1, if_neg e]
theorem bin_KW : ∀ (f : Nat) {p : Array Nat} (k : Nat), Pm n p → 1 ≤ k → k + f = n → Asc key p k → KW n (dk key) (kas_bin f p k) (fun q => Pm n q ∧ Asc key q n) := by
  intro f
  induction f with
  | zero => intro p k h h1 h2 h3; exact ⟨h, (h2 : k = n) ▸ h3⟩
  | succ f ih =>
    intro p k h h1 h2 h3
    obtain ⟨kn, h2⟩ := up h2
    refine KW.bind ?_
    refine (place_KW hk h (k := k) kn h3 k 0 k (Nat.zero_le _) (Nat.le_refl _) (Nat.sub_le k 0) (fun i hi => absurd hi (Nat.not_lt_zero i)) (fun i a b => absurd b (Nat.not_lt.mpr a))).mono fun m hm => ?_
    obtain ⟨g1, g2, g3⟩ := hm
    refine ih (k + 1) (h.bub k (k - m)) (Nat.le_add_left 1 k) h2 fun i j hij hj => ?_
    have hj := Nat.le_of_lt_succ hj
    have hi := Nat.le_trans (Nat.le_of_lt hij) hj
    by_cases i1 : i = m
    · subst i1
      rw [bub_lo h kn g1, bub_hi h kn g1 hj (Nat.ne_of_gt hij), if_pos hij]
      exact g3 (j - 1) (Nat.le_sub_one_of_lt hij) (Nat.sub_one_lt_of_le (Nat.zero_lt_of_lt hij) hj)
    · rw [bub_hi h kn g1 hi i1]
      by_cases j1 : j = m
      · subst j1
        rw [bub_lo h kn g1, if_neg (Nat.lt_asymm hij)]
        exact g2 i hij
      · rw [bub_hi h kn g1 hj j1]
        by_cases mj : m < j
        · rw [if_pos mj]
          by_cases mi : m < i
          · rw [if_pos mi]
            exact h3 _ _ (Nat.sub_lt_sub_right (Nat.zero_lt_of_lt mi) hij) (Nat.sub_one_lt_of_le (Nat.zero_lt_of_lt hij) hj)
          · rw [if_neg mi]
            exact h3 _ _ (Nat.lt_of_lt_of_le (Nat.lt_of_le_of_ne (Nat.not_lt.mp mi) i1) (Nat.le_sub_one_of_lt mj)) (Nat.sub_one_lt_of_le (Nat.zero_lt_of_lt hij) hj)
        · rw [if_neg mj, if_neg fun q => mj (Nat.lt_trans q hij)]
          exact h3 _ _ hij (Nat.lt_of_lt_of_le (Nat.lt_of_le_of_ne (Nat.not_lt.mp mj) j1) g1)
theorem sort_KW (hn : 2 ≤ n) : KW n (dk key) (kas_sort n) (fun q => Pm n q ∧ Asc key q n) := by
  refine KW.bind ?_
  refine (count_KW hk (p := List.toArray (List.range n)) ⟨by simp⟩ hn).mono fun r hr => ?_
  obtain ⟨h1, h2, h3, h4⟩ := hr
  by_cases e : r.1 < n
  · rw [if_pos e]
    rw [Nat.max_eq_left h1]
    exact bin_KW hk (n - r.1) r.1 h3 h1 (Nat.add_sub_of_le h2) h4
  · rw [if_neg e]
    have : r.1 = n := Nat.le_antisymm h2 (Nat.not_lt.mp e)
    rw [this] at h4
    exact ⟨h3, h4⟩
end
end
-- == M35
section
open PySem PySem.W PySem.Calls PyProof.Rows
set_option linter.unusedVariables false
set_option maxRecDepth 100000

section
variable {W : Wc} {c : Fc} {ρ : Env0} {st : St}

/-- a list of one item at most is sorted as it stands -/
theorem short_list_sort {prog : Program} {w : World} {A : Around} {E : Value → Shared → Prop} {s : Shared} {a : Addr} {vs : List Value} {n : Nat} {P : Fin → Shared → Prop} (ho : s.heap.get? a = some (seqObj "list" vs.toArray n)) (hn : vs.length < 2)
    (h : P (.done (.ret .none)) { s with heap := sortedHeap s.heap a vs vs.toArray }) : wpAny (model prog w) A (Builtin.«list.sort» ⟨[.ref a], []⟩) P E s := by
  have hlen : ∀ x : Nat, vs.length + x ≤ 2 + x := fun x => by omega
  rw [list_sort_plain]
  refine wpAny_bind (listItems_at ho rfl (wpAny_bind (listUpdate_at ho rfl ?_ (by rw [List.size_toArray, sizeLine_eq]; omega) (Nat.zero_le _))))
  have alt : a < s.heap.objs.size := Heap.lt_size ho
  obtain ⟨ep, he⟩ : ∃ ep, (s.heap.update a (Obj.mapSeq fun _ => #[])).get? a = some (seqObj "list" #[] ep) := ⟨_, get?_update_seq ho (fun _ => #[])⟩
  have he2 : (((s.heap.update a (Obj.mapSeq fun _ => #[])).push (seqObj "tuple" vs.toArray 0)).push (seqObj "list" #[] 0)).get? a = some (seqObj "list" #[] ep) := Heap.get?_push_of_some _ (Heap.get?_push_of_some _ he)
  refine wpAny_bind (seqEpoch_at he rfl (wpAny_bind (wpAny_newTuple ?_ (by show vs.length ≤ _; rw [sizeLine_eq]; omega))))
  refine wpAny_bind (wpAny_newList (wpAny_holding ?_) (Nat.zero_le _))
  show wpAny (model prog w) A _ P E { s with heap := ((s.heap.update a (Obj.mapSeq fun _ => #[])).push (seqObj "tuple" vs.toArray 0)).push (seqObj "list" #[] 0) }
  have h2 : vs.toArray.size < 2 := by rw [List.size_toArray]; exact hn
  dsimp only
  rw [if_pos h2, if_pos h2]
  refine wpAny_bind (wpAny_pure ?_)
  rw [StateT.run_pure]
  refine wpAny_bind (wpAny_pure ?_)
  dsimp only
  have ez : (arrOf (SortSt.mk' general' (vs.toArray.zip vs.toArray) #[] 7 none)).map (·.2) = vs.toArray := by
    show (vs.toArray.zip vs.toArray).map (·.2) = vs.toArray
    apply Array.toList_inj.mp
    simp
    exact List.map_snd_zip (Nat.le_refl _)
  rw [ez]
  refine wpAny_bind (seqEpoch_at he2 rfl (wpAny_bind (listUpdate_at he2 rfl ?_ (Nat.zero_le _) (by rw [List.size_toArray, sizeLine_eq]; omega))))
  simp only [bne_self_eq_false, Bool.false_eq_true, if_false]
  exact wpAny_pure h
theorem short_sorted {prog : Program} {w : World} {A : Around} {E : Value → Shared → Prop} {s : Shared} {l : Addr} {vs : List Value} {Q : Value → Shared → Prop} (hl : s.heap.IsList l vs.toArray) (hn : vs.length < 2)
    (h : Q (.ref (s.heap.objs.size + 1)) { s with heap := sortedAll s.heap vs vs.toArray }) : wpAny (model prog w) A (call (.builtin "sorted") [.ref l]) Q E s := by
  refine Calls.call_function_entry kind_sorted plain_sorted entry_sorted (args_sorted1 _) ?_
  unfold Builtin.«sorted»
  refine wpAny_bind (m := checkCount "sorted" 1 1 _) (wpAny_pure (wpAny_bind (collect_list hl (wpAny_bind (wpAny_newList ?_ (by rw [sizeLine_eq]; omega))) (by rw [sizeLine_eq]; omega))))
  have sz : ((s.heap.push (seqObj "list" #[] 0)).update s.heap.objs.size (Obj.mapSeq (· ++ vs.toArray))).objs.size = s.heap.objs.size + 1 := by rw [Heap.size_update, size_push']
  have at1 : (((s.heap.push (seqObj "list" #[] 0)).update s.heap.objs.size (Obj.mapSeq (· ++ vs.toArray))).push (seqObj "list" vs.toArray 0)).get? (s.heap.objs.size + 1) = some (seqObj "list" vs.toArray 0) := by
    rw [← sz]; exact Heap.get?_push_size _ rfl
  show wpAny _ _ _ _ _ { s with heap := ((s.heap.push (seqObj "list" #[] 0)).update s.heap.objs.size (Obj.mapSeq (· ++ vs.toArray))).push (seqObj "list" vs.toArray 0) }
  rw [sz]
  exact wpAny_bind (wpAny_holding (wpAny_call_entry slot_list_sort ⟨_, at1, rfl⟩ entry_list_sort (short_list_sort at1 hn ⟨_, rfl, wpAny_pure ⟨_, rfl, h⟩⟩) (args_list_sort _)))

theorem v3_ref {μ : Mu} {own : Addr → Tag} {news : Led0} {t : Int × Int × Int} {v : Value} (h : VR μ own news (v3 t) v) : ∃ a n k1 k2 k3, v = .ref a ∧ (a, tupOf [.int t.1 k1, .int t.2.1 k2, .int t.2.2 k3] n) ∈ news := by
  cases h with
  | tup h1 h2 h3 =>
    cases h3 with
    | cons a1 h3 => cases h3 with
      | cons a2 h3 => cases h3 with
        | cons a3 h3 =>
          cases h3
          cases a1; cases a2; cases a3
          exact ⟨_, _, _, _, _, rfl, h1⟩
theorem v3_tups {μ : Mu} {own : Addr → Tag} {news : Led0} {h : Heap} (N : ∀ p ∈ news, h.get? p.1 = some p.2) : ∀ {ts : List (Int × Int × Int)} {vs : List Value}, VRs μ own news (ts.map v3) vs → ∃ fs, KatTups h vs fs ∧ fs.length = vs.length ∧ ∀ v ∈ fs, ∃ i t, v = .int i t
  | [], vs, hv => by
    cases hv
    exact ⟨[], KatTups.nil, rfl, fun _ h => by cases h⟩
  | t :: r, vs, hv => by
    cases hv with
    | cons h1 h2 =>
      obtain ⟨fs, g1, g2, g3⟩ := v3_tups N h2
      obtain ⟨a, n, k1, k2, k3, rfl, hm⟩ := v3_ref h1
      refine ⟨.int t.1 k1 :: fs, KatTups.cons (N _ hm) rfl rfl (by rfl) g1, by simp [g2], fun v hv => ?_⟩
      rcases List.mem_cons.mp hv with rfl | hv
      · exact ⟨_, _, rfl⟩
      · exact g3 v hv
theorem v3_at {μ : Mu} {own : Addr → Tag} {news : Led0} {ts : List (Int × Int × Int)} {vs : List Value} (h : VRs μ own news (ts.map v3) vs) {i : Nat} (hi : i < ts.length) : VR μ own news (v3 (ts.getD i (0, 0, 0))) (vs.getD i Value.none) := by
  have hl := h.length
  rw [List.length_map] at hl
  obtain ⟨v, h1, h2⟩ := h.get (k := i) (x := v3 (ts.getD i (0, 0, 0))) (by simp [hi])
  have e : vs.getD i Value.none = v := by rw [List.getD_eq_getElem?_getD, h1]; rfl
  rw [e]; exact h2
theorem nodup_getD {ts : List (Int × Int × Int)} (hd : (ts.map (·.1)).Nodup) {i j : Nat} (hi : i < ts.length) (hj : j < ts.length) (e : (ts.getD i (0, 0, 0)).1 = (ts.getD j (0, 0, 0)).1) : i = j := by
  refine (List.getElem?_inj (l := ts.map (·.1)) (by simpa using hi) hd).mp ?_
  rw [List.getD_eq_getElem?_getD, List.getD_eq_getElem?_getD] at e
  simp [hi, hj] at e ⊢
  exact e

theorem sortedT_V {a : V} {va : Value} {ts : List (Int × Int × Int)} {Q : V → St → Prop} {s : Shared} {μ : Mu} {own : Addr → Tag} {news : Led0} {m : Str → Option Value} (hR : Rel W c st μ own news m s) (ha : VR μ own news a va)
    (h : seqV st a (ts.map v3)) (h64 : ts.length < 64) (hd : (ts.map (·.1)).Nodup) (hq : ∀ us : List (Int × Int × Int), us.Perm ts → us.Pairwise (fun x y => x.1 < y.1) → Q (.fl (us.map v3)) st) :
    wpAny (model W.prog W.w) c.A (call (.builtin "sorted") [va]) (Post W c TA VR μ own news m s Q) (fun _ _ => False) s := by
  obtain ⟨l, vs, k, rfl, g2, g3⟩ := seq_V hR ha h
  have hl : s.heap.IsList l vs.toArray := ⟨_, (hR.N _ g2).1, rfl, k, rfl⟩
  have hlen : ts.length = vs.length := by have := g3.length; simpa using this
  by_cases h2 : vs.length < 2
  · refine short_sorted hl h2 ?_
    obtain ⟨e, he⟩ := sortedAll_at s.heap vs vs.toArray
    have F' : Fr c.h₀ c.L (sortedAll s.heap vs vs.toArray) m := hR.F.kept fun _ _ => sortedAll_old
    have N' : News c.h₀ c.L (sortedAll s.heap vs vs.toArray) ((s.heap.objs.size + 1, listOf vs.toArray e) :: news) := hR.N.kept_cons hR.F (fun _ _ => sortedAll_old) (Nat.le_succ _) he
    refine newFl_V (tk := s.toks) hR F' N' (fun p hp => Nat.lt_succ_of_lt (Heap.lt_size (hR.N p hp).1)) g3 (hq ts (List.Perm.refl _) ?_)
    match ts, hlen with
    | [], _ => exact .nil
    | [t], _ => exact List.pairwise_singleton _ _
    | _ :: _ :: _, hlen => simp at hlen; omega
  · refine kat_sorted hR.F hR.N hl (by omega) (by omega) fun D e1 h' F' N' hlt => ?_
    obtain ⟨fs, t1, t2, t3⟩ := v3_tups (h := h') (fun p hp => (N' p (.tail _ hp)).1) g3
    refine kat_kind (T := .type "int") (s := { s with heap := h' }) t1 (by omega) (fun v hv => ?_) (by decide) ?_
    · obtain ⟨i, t, rfl⟩ := t3 v hv
      exact Looks.of_pure rfl
    show (kas_sort vs.length).kasWp (kas_ask W.prog W.w c.A.in1.in1 (tuples' true) vs) _ _
    have hk : ∀ i j, i < vs.length → j < vs.length → (ts.getD i (0, 0, 0)).1 = (ts.getD j (0, 0, 0)).1 → i = j := fun i j hi hj e => nodup_getD hd (by omega) (by omega) e
    refine KW.wp (n := vs.length) (d := dk fun i => (ts.getD i (0, 0, 0)).1) (fun i j C hi hj hC => ?_) ((sort_KW hk (by omega)).mono fun p hp => ?_)
    · obtain ⟨a1, n1, x1, x2, x3, e1, m1⟩ := v3_ref (v3_at g3 (i := i) (by omega))
      obtain ⟨a2, n2, y1, y2, y3, e2, m2⟩ := v3_ref (v3_at g3 (i := j) (by omega))
      unfold kas_ask
      rw [e1, e2]
      refine kat_lt (s := { s with heap := h' }) (N' _ (.tail _ m1)).1 rfl (N' _ (.tail _ m2)).1 rfl ?_
      refine kat_cons (wpAny_eqBool_int ?_)
      by_cases hij : (ts.getD i (0, 0, 0)).1 = (ts.getD j (0, 0, 0)).1
      · have := hk i j hi hj hij
        subst this
        rw [beq_self_eq_true]
        refine kat_yes (kat_cons (wpAny_eqBool_int ?_))
        rw [beq_self_eq_true]
        refine kat_yes (kat_cons (wpAny_eqBool_int ?_))
        rw [beq_self_eq_true]
        refine kat_yes (kat_nil ?_)
        have hf : dk (fun i => (ts.getD i (0, 0, 0)).1) i i = false := decide_eq_false (by omega)
        rw [hf] at hC
        simpa using hC
      · rw [beq_eq_false_iff_ne.mpr hij]
        exact kat_no (oneLt_int hC)
    · obtain ⟨hp1, hp2⟩ := hp
      refine KasFin.intro F' N' (g := fun o => (D, o) :: news) (.head fun q hq => Nat.ne_of_lt (hlt q hq)) fun h2 cc F2 N2 => ?_
      have hv : VRs μ own news ((p.toList.map fun i => ts.getD i (0, 0, 0)).map v3) (p.toList.map fun i => vs.getD i Value.none) := by
        have hb : ∀ i ∈ p.toList, i < ts.length := fun i hi => by rw [hlen]; exact List.mem_range.mp (hp1.pm.mem_iff.mp hi)
        generalize p.toList = ps at hb
        induction ps with
        | nil => exact .nil
        | cons i ps ih => exact .cons (v3_at g3 (hb i (.head _))) (ih fun j hj => hb j (.tail _ hj))
      refine newFl_V (tk := s.toks) hR F2 N2 hlt hv (hq _ ?_ ?_)
      · have e : (List.range vs.length).map (fun i => ts.getD i (0, 0, 0)) = ts := by
          rw [← hlen]
          apply List.ext_getElem?
          intro i
          by_cases hi : i < ts.length
          · simp [hi]
          · simp [hi, Nat.le_of_not_lt hi]
        have := hp1.pm.map fun i => ts.getD i (0, 0, 0)
        rw [e] at this
        exact this
      · rw [List.pairwise_map]
        refine List.pairwise_iff_getElem.mpr fun i j hi hj hij => ?_
        have hs := hp1.size
        rw [Array.length_toList, hs] at hi hj
        have := hp2 i j hij hj
        simp only [at', Array.getD] at this
        simpa [hs, hi, hj] using this
theorem TriE_sortedT {d : Nat} {p p' : Pos} {e1 : Expr} {Q : V → St → Prop} (ok : c.Ok W d) (hk : c.cs.names.lookup ("sorted" : Str) = some .globalImplicit) (hK : nsIn W.K mainGlobals "sorted" = some none) (he : starEach [e1] c.env = (false, eval e1 c.env) :: starEach [] c.env)
    (h : TriE W c e1 ρ st fun a st' => ∃ ts : List (Int × Int × Int), seqV st' a (ts.map v3) ∧ ts.length < 64 ∧ (ts.map (·.1)).Nodup ∧ ∀ us : List (Int × Int × Int), us.Perm ts → us.Pairwise (fun x y => x.1 < y.1) → Q (.fl (us.map v3)) st') :
    TriE W c (.Call (.Name "sorted" p') [e1] [] p) ρ st Q :=
  TriE_b1 ok hk hK boot_sorted (by decide) (by decide) he (h.mono fun a st' ⟨ts, h1, h2, h3, q⟩ s μ own news m va hR hv => sortedT_V hR hv h1 h2 h3 q)
end
end
-- == M38
section
open PySem PySem.W PySem.Calls PyProof.Rows
set_option linter.unusedVariables false
set_option maxRecDepth 100000

section
variable {W : Wc} {c : Fc} {ρ : Env0} {st : St}

/-- a value that is alike on every ledger -/
inductive Smp : V → Value → Prop where
  | none : Smp .none .none
  | bool (b : Bool) : Smp (.bool b) (.bool b)
  | int (i : Int) (t : Tok) : Smp (.int i) (.int i t)
theorem Smp.vr {x : V} {v : Value} (h : Smp x v) {μ : Mu} {own : Addr → Tag} {news : Led0} : VR μ own news x v := by cases h <;> constructor
noncomputable def simp0 : V → Bool
  | .none | .bool _ | .int _ => true
  | _ => false
theorem VR.smp {x : V} {v : Value} {μ : Mu} {own : Addr → Tag} {news : Led0} (h : VR μ own news x v) (hs : simp0 x = true) : Smp x v := by
  cases h <;> first | exact .none | exact .bool _ | exact .int _ _ | cases hs

/-- the entries laid so far -/
inductive EsL : List DictEntry → List (Str × V) → Prop where
  | nil : EsL [] []
  | cons {e : DictEntry} {es : List DictEntry} {nm : Str} {x : V} {L : List (Str × V)} : e.key.isStr nm = true → e.refKey = false → Smp x e.val → EsL es L → EsL (e :: es) ((nm, x) :: L)
theorem EsL.length {es : List DictEntry} {L : List (Str × V)} (h : EsL es L) : es.length = L.length := by
  induction h with
  | nil => rfl
  | cons _ _ _ _ ih => simp [ih]
theorem EsL.find {es : List DictEntry} {L : List (Str × V)} (h : EsL es L) (f : Str) : f ∉ L.map (·.1) → es.find? (fun e => e.key.isStr f) = none ∧ es.any (·.refKey) = false := by
  induction h with
  | nil => exact fun _ => ⟨rfl, rfl⟩
  | @cons e es nm x L h1 h2 h3 _ ih =>
    intro hf
    simp only [List.map_cons, List.mem_cons, not_or] at hf
    obtain ⟨i1, i2⟩ := ih hf.2
    have : e.key.isStr f = false := by
      cases z : e.key.isStr f with
      | false => rfl
      | true => exact absurd (isStr_inj z h1) hf.1
    exact ⟨by rw [List.find?_cons, this]; exact i1, by rw [List.any_cons, h2, i2]; rfl⟩
theorem EsL.putL {es : List DictEntry} {L : List (Str × V)} (h : EsL es L) {f : Str} {hs : Int} {t : Tok} {x : V} {v : Value} (hv : Smp x v) : f ∉ L.map (·.1) → EsL (PySem.W.putL f hs (.str f t) v es) (L ++ [(f, x)]) := by
  induction h with
  | nil => exact fun _ => .cons (by simp [Value.isStr]) rfl hv .nil
  | @cons e es nm y L h1 h2 h3 _ ih =>
    intro hf
    simp only [List.map_cons, List.mem_cons, not_or] at hf
    have : e.key.isStr f = false := by
      cases z : e.key.isStr f with
      | false => rfl
      | true => exact absurd (isStr_inj z h1) hf.1
    unfold PySem.W.putL
    rw [this]
    exact .cons h1 h2 h3 (ih hf.2)
theorem EsL.get {es : List DictEntry} {L : List (Str × V)} (h : EsL es L) {f : Str} {x : V} (hl : L.lookup f = some x) : ∃ v, getL f es = some (some v) ∧ Smp x v := by
  suffices hh : ∃ v, (es.find? (fun e => e.key.isStr f)).map (·.val) = some v ∧ Smp x v by
    obtain ⟨v, h1, h2⟩ := hh
    exact ⟨v, getL_iff.mpr h1, h2⟩
  induction h with
  | nil => simp at hl
  | @cons e es nm y L h1 h2 h3 _ ih =>
    rw [List.lookup_cons] at hl
    by_cases hfn : f = nm
    · subst hfn
      simp at hl
      subst hl
      exact ⟨e.val, by rw [List.find?_cons, h1]; rfl, h3⟩
    · rw [beq_eq_false_iff_ne.mpr hfn] at hl
      have : e.key.isStr f = false := by
        cases z : e.key.isStr f with
        | false => rfl
        | true => exact absurd (isStr_inj z h1) hfn
      rw [List.find?_cons, this]
      exact ih hl
structure Part (C x dx : Addr) (L : List (Str × V)) (own : Addr → Tag) (news : Led0) : Prop where
  hx : (x, instObj C dx) ∈ news
  ox : own x = .ce
  od : own dx = .ce
  d : ∃ es n, (dx, dictOf es n) ∈ news ∧ EsL es L
theorem Part.step {C x dx : Addr} {L : List (Str × V)} {μ μ' : Mu} {own own' : Addr → Tag} {news news' : Led0} (h : Part C x dx L own news) (S : Stp TA μ own news μ' own' news') : Part C x dx L own' news' := by
  obtain ⟨es, n, h1, h2⟩ := h.d
  obtain ⟨a1, a2⟩ := S.fr _ h.hx (by show TA (own x) = true; rw [h.ox]; rfl)
  obtain ⟨b1, b2⟩ := S.fr _ h1 (by show TA (own dx) = true; rw [h.od]; rfl)
  exact ⟨a1, a2.trans h.ox, b2.trans h.od, es, n, b1, h2⟩

noncomputable def IS (W : Wc) (c : Fc) (x dx : Addr) (b : List Stmt) (ρ : Env0) (st : St) (L : List (Str × V)) (Z : List (Str × V) → Prop) : Prop :=
  ∀ s μ own news m, Rel W c st μ own news m s → Loc c ρ m μ own news → m "self" = some (.ref x) → Part W.Cn x dx L own news →
    wpAny (model W.prog W.w) c.A (execs b c.env) (fun f s' => f = .next ∧ ∃ L' μ' own' news' m', Z L' ∧ Stp TS μ own news μ' own' news' ∧ Rel W c st μ' own' news' m' s' ∧ Part W.Cn x dx L' own' news' ∧ Same s s') (fun _ _ => False) s
theorem IS_nil {x dx : Addr} {L : List (Str × V)} {Z : List (Str × V) → Prop} (h : Z L) : IS W c x dx [] ρ st L Z :=
  fun s μ own news m hR hL hm hP => wpAny_execs_nil ⟨rfl, L, μ, own, news, m, h, Stp.refl .., hR, hP, rfl⟩
theorem IS_cons {d : Nat} {x dx : Addr} {L : List (Str × V)} {Z : List (Str × V) → Prop} {f : Str} {v0 : V} {e : Expr} {p1 p2 p3 : Pos} {b : List Stmt} (wk : W.Ok) (ok : c.Ok W d) (hself : c.cs.names.lookup ("self" : Str) = some .local) (htk : takerIn W.K W.Cn f = some none)
    (hs : swapsWith e (some (.Attribute (.Name "self" p1) f p2)) p3.line c.env = pure false) (hnc : ∀ y, c.cs.names.lookup y ≠ some .cell) (he : TriE W c e ρ st fun v st' => v = v0 ∧ st' = st) (hv : simp0 v0 = true) (hf : f ∉ L.map (·.1)) (hlen : L.length ≤ 15)
    (h : IS W c x dx b ρ st (L ++ [(f, v0)]) Z) : IS W c x dx (.Assign [.Attribute (.Name "self" p1) f p2] e p3 :: b) ρ st L Z := by
  intro s μ own news m hR hL hm hP
  refine wpAny_execs_cons (plainObj_wpAny_Assign_Attribute (wpAny_then he hR hL fun vv s1 v st1 μ1 own1 news1 S1 R1 L1 r1 e1 q1 => ?_) hs)
  obtain ⟨rfl, rfl⟩ := q1
  refine nameX_L R1.F hm ?_ ok.hk hself (by decide)
  have hP1 := hP.step S1
  obtain ⟨es, n, h1, h2⟩ := hP1.d
  obtain ⟨f1, f2⟩ := h2.find f hf
  have hsm := r1.smp hv
  have hne : x ≠ dx := fun z => by
    have := News.get R1.N hP1.hx
    rw [z, News.get R1.N h1] at this
    cases this
  obtain ⟨news', U, k1, k2, k3⟩ := upd_of_mem (o' := dictOf (putL f (PyData.keyHash W.w.params f) (.str f (s1.toks + 1)) vv es) (putN f es n)) h1 R1.D.nodup
  have h3 := h2.putL (hs := PyData.keyHash W.w.params f) (t := s1.toks + 1) hsm hf
  refine set_dict R1.F ok.X R1.N (InstAt.of_news R1.N hP1.hx h1) rfl wk.cn.sa wk.cn.po htk wk.cn.hd (by unfold getL; rw [f1, f2]; rfl) rfl U (by rw [h3.length]; simp; omega) fun h' F' N' => ?_
  have hod : own1 dx = .ce := hP1.od
  have S2 : Stp TS μ1 own1 news1 μ1 own1 news' := Stp.upd k1 k3 (by rw [hod]; rfl)
  have R2 : Rel W c st1 μ1 own1 news' m { s1 with heap := h', toks := s1.toks + 2 } := ⟨F', N', R1.D.chgC hod k1 (k3 ▸ R1.D.nodup)⟩
  have SV : StV μ1 own1 news1 μ1 own1 news' := ⟨fun _ _ h => h, fun _ _ h => h, rfl, rfl, fun p hp ht => ⟨k1 p hp (fun z => by rw [z, hod] at ht; cases ht), rfl⟩⟩
  have P2 : Part W.Cn x dx (L ++ [(f, v)]) own1 news' := ⟨k1 _ hP1.hx (fun z => hne z), hP1.ox, hod, _, _, k2, h3⟩
  have L2 : Loc c ρ m μ1 own1 news' := fun y a ey => by
    refine ⟨fun k => ?_, fun k => absurd k (hnc y)⟩
    obtain ⟨cv, a1, a2⟩ := (L1 y a ey).1 k
    exact ⟨cv, a1, a2.stepv SV⟩
  refine wpAny_mono (h _ μ1 own1 news' m R2 L2 hm P2) (fun fl s3 hh => ?_) fun _ _ x => x
  obtain ⟨e0, L', μ', own', news2, m', z1, z2, z3, z4, z5⟩ := hh
  exact ⟨e0, L', μ', own', news2, m', z1, (S1.AtoS.trans S2).trans z2, z3, z4, e1.trans ((Same.mk s1 h' _).trans z5)⟩

/-- a new node -/
noncomputable def St.newN (st : St) (nu b e : Int) : St :=
  { st with nn := st.nn + 1, num := upd st.num st.nn nu, bg := upd st.bg st.nn b, en := upd st.en st.nn e, lim := upd st.lim st.nn e, off := upd st.off st.nn 0, red := upd st.red st.nn false, lf := upd st.lf st.nn none, rt := upd st.rt st.nn none, pa := upd st.pa st.nn none }
theorem newN_old {nu b e : Int} {j : Nat} (h : j < st.nn) (f : NF) : (st.newN nu b e).nf j f = st.nf j f := by
  have hj : j ≠ st.nn := by omega
  cases f <;> simp only [St.nf, St.newN, upd_ne _ _ _ hj]
theorem newN_new {nu b e : Int} (f : NF) : (st.newN nu b e).nf st.nn f = (match f with | .num => .int nu | .bg => .int b | .en => .int e | .lim => .int e | .off => .int 0 | .red => .bool false | .lf => .none | .rt => .none | .pa => .none) := by
  cases f <;> simp only [St.nf, St.newN, upd_self] <;> rfl
theorem newN_led {prog : Program} {w : World} {Cn Ct : Addr} {μ : Mu} {own : Addr → Tag} {news : Led0} {x dx : Addr} {es : List DictEntry} {n : Nat} {nu b e : Int} (D : Led prog w Cn Ct st μ own news) (hx : (x, instObj Cn dx) ∈ news) (hd : (dx, dictOf es n) ∈ news) (hne : x ≠ dx) (ox : own x = .ce) (od : own dx = .ce) (hl : es.length ≤ 20)
    (hf : ∀ f : NF, ∃ v, getL f.name es = some (some v) ∧ Smp ((st.newN nu b e).nf st.nn f) v) :
    Led prog w Cn Ct (st.newN nu b e) { μ with nd := μ.nd ++ [(x, dx)] } (ownAt (ownAt own x (.ni st.nn)) dx (.nx st.nn)) news ∧
    StV μ own news { μ with nd := μ.nd ++ [(x, dx)] } (ownAt (ownAt own x (.ni st.nn)) dx (.nx st.nn)) news := by
  have ndx : ∀ (i : Nat) (p : Addr × Addr), μ.nd[i]? = some p → (μ.nd ++ [(x, dx)])[i]? = some p := fun i p h => by
    rw [List.getElem?_append_left (List.getElem?_eq_some_iff.mp h).1]; exact h
  have own2 : ∀ a t, own a = t → t ≠ .ce → ownAt (ownAt own x (.ni st.nn)) dx (.nx st.nn) a = t := fun a t h ht => by
    rw [ownAt_ne (fun z => ht (by rw [← h, z, od])), ownAt_ne (fun z => ht (by rw [← h, z, ox]))]; exact h
  have SV : StV μ own news { μ with nd := μ.nd ++ [(x, dx)] } (ownAt (ownAt own x (.ni st.nn)) dx (.nx st.nn)) news :=
    ⟨ndx, fun _ _ h => h, rfl, rfl, fun p hp ht => ⟨hp, (own2 p.1 .fz ht (by simp)).trans ht.symm⟩⟩
  refine ⟨⟨D.nodup, ?_, fun i p hp => ?_, D.ll, fun i a xs ha hx' => ?_, ?_, ?_, D.fl, D.pl⟩, SV⟩
  · show (μ.nd ++ [(x, dx)]).length = st.nn + 1
    rw [List.length_append, D.nlen]; rfl
  · have hp : (μ.nd ++ [(x, dx)])[i]? = some p := hp
    by_cases hi : i < μ.nd.length
    · rw [List.getElem?_append_left hi] at hp
      obtain ⟨h1, h2, h3, es', n', h4, h5⟩ := D.nd i p hp
      refine ⟨own2 _ _ h1 (by simp), own2 _ _ h2 (by simp), h3, es', n', h4, h5.len, fun f => ?_⟩
      obtain ⟨v, g1, g2⟩ := h5.get f
      exact ⟨v, g1, by rw [newN_old (by rw [← D.nlen]; exact hi)]; exact g2.stepv SV⟩
    · rw [List.getElem?_append_right (by omega)] at hp
      have hi2 : i = st.nn := by
        have := (List.getElem?_eq_some_iff.mp hp).1
        simp at this
        have := D.nlen
        omega
      have : p = (x, dx) := by
        rw [show i - μ.nd.length = 0 by rw [D.nlen]; omega] at hp
        simpa using hp.symm
      subst this hi2
      refine ⟨by rw [ownAt_ne hne]; exact ownAt_self, ownAt_self, hx, es, n, hd, hl, fun f => ?_⟩
      obtain ⟨v, g1, g2⟩ := hf f
      exact ⟨v, g1, g2.vr⟩
  · obtain ⟨h1, vs, n', h2, h3⟩ := D.ls i a xs ha hx'
    exact ⟨own2 _ _ h1 (by simp), vs, n', h2, h3.stepv SV⟩
  · obtain ⟨h1, h2, h3, es', n', h4, h5⟩ := D.tr
    refine ⟨own2 _ _ h1 (by simp), own2 _ _ h2 (by simp), h3, es', n', h4, h5.len, fun f => ?_⟩
    obtain ⟨v, g1, g2⟩ := h5.get f
    exact ⟨v, g1, by cases f <;> exact g2.stepv SV⟩
  · obtain ⟨h1, h2, o', kvs, h3, h4, h5⟩ := D.dc
    exact ⟨own2 _ _ h1 (by simp), h2, o', kvs, h3, h4, h5.stepv SV⟩

structure FnAt2 (K : Frag) (f : Addr) (nm qual : Str) (params : Arguments) (body : List Stmt) (scope : Scope) : Prop where
  ex : ∃ doc pm cdv ct oc an od osl, K.lookup f = some ⟨oc, od, .func (fnOf nm qual params body scope .none .none doc pm an cdv ct), osl⟩ ∧ codeIn K cdv qual = true
noncomputable def clsBody : Stmt → List Stmt
  | .ClassDef _ _ _ b _ _ _ _ _ _ _ => b
  | _ => []
noncomputable def initS : Stmt := ((clsBody (stmtAt 1))[0]?).getD (.Pass ⟨0,0,0,0⟩)
structure NodeCls (W : Wc) : Prop where
  ex : ∃ fI, FnAt2 W.K fI "__init__" "OverlayNode.__init__" (argsOf initS) (bodyOf initS) (scopeOf initS) ∧ findIn W.K (.ref W.Cn) "__init__" = some (some (.ref fI)) ∧ isFn W.K (.ref fI) = true
  ns : nsIn W.K mainGlobals "OverlayNode" = some (some (.ref W.Cn))
  kp : keepIn W.K (.ref W.Cn) = true
  mks : makesIn W.K W.Cn = true
  fa : takerIn W.K W.Cn "front_advance" = some none
  ra : takerIn W.K W.Cn "rear_advance" = some none
noncomputable def initNames : List Str := ["self", "number", "begin", "end", "front_advance", "rear_advance"]
noncomputable def finL (nu b e : Int) (fa ra : Bool) : List (Str × V) := [("number", .int nu), ("begin", .int b), ("end", .int e), ("front_advance", .bool fa), ("rear_advance", .bool ra), ("limit", .int e), ("offset", .int 0), ("is_red", .bool false), ("left", .none), ("right", .none), ("parent", .none)]
theorem init_IS {x dx : Addr} {nu b e : Int} {fa ra : Bool} (wk : W.Ok) (nc : NodeCls W) (ok : c.Ok W 0) (hc : c.cs = scopeOf initS) : IS W c x dx (bodyOf initS) [("number", .int nu), ("begin", .int b), ("end", .int e), ("front_advance", .bool fa), ("rear_advance", .bool ra)] st [] (fun L => L = finL nu b e fa ra) := by
  have hnc : ∀ y, c.cs.names.lookup y ≠ some .cell := fun y k => by
    rw [hc] at k
    have := mem_of_lookup k
    revert this
    have hh : ∀ p ∈ (scopeOf initS).names, p.2 ≠ .cell := by decide
    exact fun hm => hh _ hm rfl
  refine IS_cons (v0 := .int nu) wk ok (by rw [hc]; rfl) (wk.cn.tk .num) (by rfl) hnc (TriE_local ok rfl (by rw [hc]; rfl) ⟨rfl, rfl⟩ (by decide)) rfl (by simp only [List.nil_append, List.cons_append, List.map_cons, List.map_nil]; decide) (by simp) ?_
  refine IS_cons (v0 := .int b) wk ok (by rw [hc]; rfl) (wk.cn.tk .bg) (by rfl) hnc (TriE_local ok rfl (by rw [hc]; rfl) ⟨rfl, rfl⟩ (by decide)) rfl (by simp only [List.nil_append, List.cons_append, List.map_cons, List.map_nil]; decide) (by simp) ?_
  refine IS_cons (v0 := .int e) wk ok (by rw [hc]; rfl) (wk.cn.tk .en) (by rfl) hnc (TriE_local ok rfl (by rw [hc]; rfl) ⟨rfl, rfl⟩ (by decide)) rfl (by simp only [List.nil_append, List.cons_append, List.map_cons, List.map_nil]; decide) (by simp) ?_
  refine IS_cons (v0 := .bool fa) wk ok (by rw [hc]; rfl) (nc.fa) (by rfl) hnc (TriE_local ok rfl (by rw [hc]; rfl) ⟨rfl, rfl⟩ (by decide)) rfl (by simp only [List.nil_append, List.cons_append, List.map_cons, List.map_nil]; decide) (by simp) ?_
  refine IS_cons (v0 := .bool ra) wk ok (by rw [hc]; rfl) (nc.ra) (by rfl) hnc (TriE_local ok rfl (by rw [hc]; rfl) ⟨rfl, rfl⟩ (by decide)) rfl (by simp only [List.nil_append, List.cons_append, List.map_cons, List.map_nil]; decide) (by simp) ?_
  refine IS_cons (v0 := .int e) wk ok (by rw [hc]; rfl) (wk.cn.tk .lim) (by rfl) hnc (TriE_local ok rfl (by rw [hc]; rfl) ⟨rfl, rfl⟩ (by decide)) rfl (by simp only [List.nil_append, List.cons_append, List.map_cons, List.map_nil]; decide) (by simp) ?_
  refine IS_cons (v0 := .int 0) wk ok (by rw [hc]; rfl) (wk.cn.tk .off) (by rfl) hnc (TriE_int ⟨rfl, rfl⟩) rfl (by simp only [List.nil_append, List.cons_append, List.map_cons, List.map_nil]; decide) (by simp) ?_
  refine IS_cons (v0 := .bool false) wk ok (by rw [hc]; rfl) (wk.cn.tk .red) (by rfl) hnc (TriE_bool ⟨rfl, rfl⟩) rfl (by simp only [List.nil_append, List.cons_append, List.map_cons, List.map_nil]; decide) (by simp) ?_
  refine IS_cons (v0 := .none) wk ok (by rw [hc]; rfl) (wk.cn.tk .lf) (by rfl) hnc (TriE_none ⟨rfl, rfl⟩) rfl (by simp only [List.nil_append, List.cons_append, List.map_cons, List.map_nil]; decide) (by simp) ?_
  refine IS_cons (v0 := .none) wk ok (by rw [hc]; rfl) (wk.cn.tk .rt) (by rfl) hnc (TriE_none ⟨rfl, rfl⟩) rfl (by simp only [List.nil_append, List.cons_append, List.map_cons, List.map_nil]; decide) (by simp) ?_
  refine IS_cons (v0 := .none) wk ok (by rw [hc]; rfl) (wk.cn.tk .pa) (by rfl) hnc (TriE_none ⟨rfl, rfl⟩) rfl (by simp only [List.nil_append, List.cons_append, List.map_cons, List.map_nil]; decide) (by simp) ?_
  exact IS_nil rfl
theorem fa_nil {α : Type} {P : α → Prop} : ∀ x ∈ ([] : List α), P x := fun _ h => nomatch h
theorem fa_cons {α : Type} {P : α → Prop} {a : α} {l : List α} (h : P a) (k : ∀ x ∈ l, P x) : ∀ x ∈ a :: l, P x
  | _, .head _ => h
  | y, .tail _ q => k y q
theorem new_V {nu b e : Int} {fa ra : Bool} {vs : List Value} {Q : V → St → Prop} {s : Shared} {μ : Mu} {own : Addr → Tag} {news : Led0} {m : Str → Option Value} (wk : W.Ok) (nc : NodeCls W) (ok : c.Ok W 3) (hR : Rel W c st μ own news m s)
    (hv : VRs μ own news [.int nu, .int b, .int e, .bool fa, .bool ra] vs) (hq : Q (.node st.nn) (st.newN nu b e)) : wpAny (model W.prog W.w) c.A (call (.ref W.Cn) vs) (Post W c TA VR μ own news m s Q) (fun _ _ => False) s := by
  obtain ⟨fI, ⟨doc, pm, cdv, ct, oc, an, od, osl, hl, hcd⟩, hfi, hfn⟩ := nc.ex
  have hv0 := hv
  cases hv with | cons a1 hv => cases hv with | cons a2 hv => cases hv with | cons a3 hv => cases hv with | cons a4 hv => cases hv with | cons a5 hv =>
  cases hv
  rename_i v1 v2 v3 v4 v5
  refine call_cls hR.F ok.X hR.N nc.mks hfi hfn fun x dx h1 F1 N1 hlt hlt2 => ?_
  have hf1 : ∀ p ∈ news, p.1 ≠ dx := fun p hp => Nat.ne_of_lt (hlt p hp)
  have hf2 : ∀ p ∈ (dx, dictOf [] 0) :: news, p.1 ≠ x := fun p hp => by
    rcases List.mem_cons.mp hp with rfl | hp
    · exact Nat.ne_of_lt hlt2
    · exact Nat.ne_of_lt (Nat.lt_trans (hlt p hp) hlt2)
  have L1 : Led W.prog W.w W.Cn W.Ct st μ (ownAt (own0 own) dx .ce) ((dx, dictOf [] 0) :: news) := hR.D.own0.grow hf1
  have L2 : Led W.prog W.w W.Cn W.Ct st μ (ownAt (ownAt (own0 own) dx .ce) x .ce) ((x, instObj W.Cn dx) :: (dx, dictOf [] 0) :: news) := L1.grow hf2
  have S1 : ∀ T, Stp T μ (own0 own) news μ (ownAt (ownAt (own0 own) dx .ce) x .ce) ((x, instObj W.Cn dx) :: (dx, dictOf [] 0) :: news) := fun T => (Stp.grow hf1).trans (Stp.grow hf2)
  have hne : x ≠ dx := fun z => by rw [z] at hlt2; exact Nat.lt_irrefl _ hlt2
  have XH : W.K.In h1 := ok.X.keeps F1.keep
  refine callX_plain (cl := []) (s := { s with heap := h1 }) ok.B F1 N1 ok.T.nolimit (show (c.A.under _).frames = some (c.env :: c.outer) from ok.hA) rfl ok.hk (XH _ _ hl) rfl (codeRec_of XH hcd) (by have := ok.dep; show c.A.depth + 1 < 1000; omega)
    (BindsTo.of_eq (show _ = pure (initNames.zip [.ref x, v1, v2, v3, v4, v5]) from rfl)) (by
      intro y hy
      have := (List.of_mem_zip hy).1
      revert this
      have hh : ∀ z ∈ initNames, (scopeOf initS).names.lookup z = some .local := by decide
      exact fun hm => hh _ hm) (fun g L' h2 FG F' N' B' hst _ => ?_) (by decide) rfl rfl rfl
  let c' : Fc := { A := (c.A.under (.builtin "type.__call__" ⟨.ref W.Cn :: [v1, v2, v3, v4, v5], []⟩)).deeper (envX "OverlayNode.__init__" (scopeOf initS) L' fI cdv []), A₀ := c.A.under (.builtin "type.__call__" ⟨.ref W.Cn :: [v1, v2, v3, v4, v5], []⟩), base := c.base, h₀ := g, outer := c.env :: c.outer, cn := "OverlayNode.__init__", cs := scopeOf initS, L := L', a := fI, ccd := cdv, cl := [] }
  have ok' : c'.Ok W 0 := ⟨B', Around.frames_deeper (show (c.A.under _).frames = some (c.env :: c.outer) from ok.hA), rfl, ok.X.keeps hst, ok.T.keeps hst, ok.hh,
    by have := ok.dep; show c.A.depth + 1 + 1 + 0 ≤ 400; omega, by have := ok.uni; show c.A.units + 1 + 3 + 8 * 0 ≤ 1000; omega⟩
  have R' : Rel W c' st μ (ownAt (ownAt (own0 own) dx .ce) x .ce) ((x, instObj W.Cn dx) :: (dx, dictOf [] 0) :: news) (fun y => (initNames.zip [.ref x, v1, v2, v3, v4, v5]).reverse.lookup y) { s with heap := h2, toks := s.toks + (initNames.zip [Value.ref x, v1, v2, v3, v4, v5]).length } := ⟨F', N', L2⟩
  have vv : ∀ {a : V} {v : Value}, VR μ own news a v → VR μ (ownAt (ownAt (own0 own) dx .ce) x .ce) ((x, instObj W.Cn dx) :: (dx, dictOf [] 0) :: news) a v := fun h => (h.step Stp.own0V).step (S1 TV)
  have L0 : Loc c' [("number", .int nu), ("begin", .int b), ("end", .int e), ("front_advance", .bool fa), ("rear_advance", .bool ra)] (fun y => (initNames.zip [.ref x, v1, v2, v3, v4, v5]).reverse.lookup y) μ (ownAt (ownAt (own0 own) dx .ce) x .ce) ((x, instObj W.Cn dx) :: (dx, dictOf [] 0) :: news) := by
    intro y a ey
    have hcell : ∀ z ∈ (scopeOf initS).names, z.2 ≠ .cell := by decide
    refine ⟨fun _ => ?_, fun k => absurd rfl (hcell _ (mem_of_lookup k))⟩
    exact fa_cons (P := fun p : Str × V => ∃ v, (initNames.zip [.ref x, v1, v2, v3, v4, v5]).reverse.lookup p.1 = some v ∧ VR μ (ownAt (ownAt (own0 own) dx .ce) x .ce) ((x, instObj W.Cn dx) :: (dx, dictOf [] 0) :: news) p.2 v) ⟨v1, rfl, vv a1⟩ (fa_cons ⟨v2, rfl, vv a2⟩ (fa_cons ⟨v3, rfl, vv a3⟩ (fa_cons ⟨v4, rfl, vv a4⟩ (fa_cons ⟨v5, rfl, vv a5⟩ fa_nil)))) (y, a) (mem_of_lookup ey)
  have P0 : Part W.Cn x dx [] (ownAt (ownAt (own0 own) dx .ce) x .ce) ((x, instObj W.Cn dx) :: (dx, dictOf [] 0) :: news) :=
    ⟨.head _, ownAt_self, by rw [ownAt_ne (Ne.symm hne)]; exact ownAt_self, [], 0, .tail _ (.head _), .nil⟩
  refine wpAny_mono (init_IS wk nc ok' rfl _ μ _ _ _ R' L0 rfl P0) (fun fl s' p => ?_) fun _ _ z => z.elim
  obtain ⟨rfl, L', μ', own', news', m', hL, S, R'', P', e'⟩ := p
  subst hL
  obtain ⟨es, n, hd, hes⟩ := P'.d
  have S0 : Stp TS μ (own0 own) news μ' own' news' := (S1 TS).trans S
  obtain ⟨μ2, own2, S2, D2, -, ho2⟩ := leave_all hR.D S0 R''.D (v := .none) (cv := .none) .none rfl
  have eleave : leaveSt st.lists.length st = st := by unfold leaveSt; rw [List.take_length]
  rw [eleave] at D2
  have hxn : ∀ p ∈ news, p.1 ≠ x ∧ p.1 ≠ dx := fun p hp => ⟨hf2 p (.tail _ hp), hf1 p hp⟩
  have ox2 : own2 x = .ce := (ho2 rfl x (fun hm => by
    obtain ⟨p, hp, e⟩ := List.mem_map.mp hm
    exact (hxn p hp).1 e)).trans P'.ox
  have od2 : own2 dx = .ce := (ho2 rfl dx (fun hm => by
    obtain ⟨p, hp, e⟩ := List.mem_map.mp hm
    exact (hxn p hp).2 e)).trans P'.od
  obtain ⟨D3, SV3⟩ := newN_led (nu := nu) (b := b) (e := e) D2 P'.hx hd hne ox2 od2 (by rw [hes.length]; exact Nat.le_of_ble_eq_true rfl) fun f => by
    rw [newN_new]
    cases f <;> exact hes.get rfl
  have S3 : Stp TA μ own news { μ2 with nd := μ2.nd ++ [(x, dx)] } (ownAt (ownAt own2 x (.ni st.nn)) dx (.nx st.nn)) news' := by
    refine ⟨fun i p h => SV3.nd i p (S2.nd i p h), S2.ls, S2.tr, S2.dc, fun p hp ht => ?_, S2.adr⟩
    obtain ⟨g1, g2⟩ := S2.fr p hp ht
    exact ⟨g1, by rw [ownAt_ne (hxn p hp).2, ownAt_ne (hxn p hp).1]; exact g2⟩
  refine leaveK_ R''.F R''.N fun kF kN => ⟨rfl, ?_⟩
  refine ⟨.node st.nn, st.newN nu b e, _, _, news', S3, ⟨kF, kN, D3⟩, .node (p := (x, dx)) ?_, (Same.mk s _ _).trans e', hq⟩
  show (μ2.nd ++ [(x, dx)])[st.nn]? = some (x, dx)
  rw [← D2.nlen]; simp
theorem TriE_new {p p' : Pos} {e0 : Expr} {es : List Expr} {Q : V → St → Prop} (wk : W.Ok) (nc : NodeCls W) (ok : c.Ok W 3) (hk : c.cs.names.lookup ("OverlayNode" : Str) = some .globalImplicit)
    (he : starEach (e0 :: es) c.env = (false, eval e0 c.env) :: starEach es c.env) (hp : (backTo p (starEach es c.env)).any (·.1) = false)
    (h : TriEs W c p (e0 :: es) ρ st fun xs st' => ∃ nu b e fa ra, xs = [.int nu, .int b, .int e, .bool fa, .bool ra] ∧ Q (.node st'.nn) (st'.newN nu b e))
    (hc : eval (.Call (.Name "OverlayNode" p') (e0 :: es) [] p) c.env = (do callWith p (← eval (.Name "OverlayNode" p') c.env) [] (backTo p (starEach (e0 :: es) c.env)) (backToKw p (keywordEach [] c.env))) := by rfl) :
    TriE W c (.Call (.Name "OverlayNode" p') (e0 :: es) [] p) ρ st Q := by
  intro s μ own news m hR hL
  refine Call_ (nameX_K hR.F ok.X ok.T nc.ns ?_ ok.hk hk (by decide)) hc
  refine callWith_K ok.X nc.kp (wpAny_then h hR hL fun vs s' xs st' μ' own' news' S R' L' r e' q => ⟨ok.X.keeps R'.F.keep, ?_⟩) he hp
  obtain ⟨nu, b, e, fa, ra, rfl, hq⟩ := q
  exact wpAny_mono (new_V wk nc ok R' r hq) (fun _ _ p => p.after S e') fun _ _ x => x
end
end
-- == M36
section
open PySem PySem.W PySem.Calls PyProof.Rows
set_option linter.unusedVariables false
set_option linter.unusedSimpArgs false
set_option maxRecDepth 100000
set_option maxHeartbeats 4000000
section
variable {W : Wc} {c : Fc} {ρ : Env0} {st : St}

structure En where
  t : T
  p : Option Nat
  m : Nat
  a : Int
noncomputable def En.v (e : En) : V := .tup [ov e.t.top, ov e.p, .int (e.m : Int), .int e.a]
noncomputable def enT (es : List En) : List T := es.map (·.t)
structure EnOk (st : St) (ks : List Kt) (K : Nat) (e : En) : Prop where
  rep : Rep st e.p e.t
  bh : ∃ n, BH e.t n ∧ e.m + n = K
  lm : Lm (sh st.off e.a e.t)
  ks : ∀ k ∈ (sh st.off e.a e.t).keys, k ∈ ks
  red : e.t.red = true → ∃ j, e.p = some j ∧ st.red j = false
noncomputable def ek (ks : List Kt) (i : Int) : Int := ((ks.find? fun k => decide ((k.1 : Int) = i)).map (·.2.2)).getD 0
theorem ek_at {ks : List Kt} (hd : (ks.map (·.1)).Nodup) {k : Kt} (h : k ∈ ks) : ek ks (k.1 : Int) = k.2.2 := by
  induction ks with
  | nil => cases h
  | cons x r ih =>
    simp only [List.map_cons, List.nodup_cons] at hd
    unfold ek
    rw [List.find?_cons]
    by_cases e : x.1 = k.1
    · have : k = x := key_uniq (ks := x :: r) (by rw [List.map_cons, List.nodup_cons]; exact hd) h (.head _) e.symm
      subst this; simp
    · have e2 : decide ((x.1 : Int) = (k.1 : Int)) = false := decide_eq_false (by omega)
      rw [e2]
      rcases List.mem_cons.mp h with h | h
      · exact absurd (by rw [h]) e
      · exact ih hd.2 h
noncomputable def gE (ks : List Kt) : V → V
  | .int i => .int (ek ks i)
  | v => v
theorem ids_key {t : T} {O : Nat → Int} {a : Int} {i : Nat} (h : i ∈ t.ids) : ∃ k ∈ (sh O a t).keys, k.1 = i := by
  rw [← sh_ids (O := O) (a := a)] at h
  obtain ⟨k, h1, h2⟩ := List.mem_map.mp h
  exact ⟨k, h1, h2⟩
theorem max_of {ks : List Kt} (hd : (ks.map (·.1)).Nodup) {l r : T} {d : D} {O : Nat → Int} {a : Int} (hl : Lm (sh O a (.node l d r))) (hk : ∀ k ∈ (sh O a (.node l d r)).keys, k ∈ ks) {ns : List Nat} (hp : ns.Perm (T.node l d r).ids) {M : Int}
    (h1 : M ∈ ns.map fun (i : Nat) => ek ks (i : Int)) (h2 : ∀ x ∈ ns.map fun (i : Nat) => ek ks (i : Int), x ≤ M) : d.m + (a + O d.i) = M := by
  obtain ⟨⟨k, g1, g2⟩, g3⟩ := Lm_max hl (M := d.m + (a + O d.i)) rfl
  refine Int.le_antisymm ?_ ?_
  · rw [← g2, ← ek_at hd (hk k g1)]
    refine h2 _ (List.mem_map_of_mem (hp.mem_iff.mpr ?_))
    have : k.1 ∈ (sh O a (.node l d r)).ids := List.mem_map_of_mem (f := (·.1)) g1
    rwa [sh_ids] at this
  · obtain ⟨i, hi, rfl⟩ := List.mem_map.mp h1
    obtain ⟨k', f1, f2⟩ := ids_key (O := O) (a := a) (hp.mem_iff.mp hi)
    subst f2
    show ek ks (k'.1 : Int) ≤ _
    rw [ek_at hd (hk k' f1)]
    exact g3 k' f1
noncomputable def oBody : Option Stmt → List Stmt
  | some (.If _ _ o _) => o
  | _ => []
theorem find_plc {ks : List Kt} {k : Kt} (hd : (ks.map (·.1)).Nodup) (h : k ∈ ks) : ((plc ks).find? fun p => p.1 = (k.1 : Int)).map (·.2) = some (.tup [.int k.2.1, .int k.2.2]) := by
  rw [getP_plc (i := k.1) (b := k.2.1) (e := k.2.2) hd h]; rfl
theorem whole_rest {n : Nat} {ks : List Kt} {Qf : FV → Env0 → St → Prop} {l r : T} {d : D} {ep : Option Nat} {em : Nat} {ea : Int} {X B : List V} (wk : W.Ok) (ok : c.Ok W 1) (hc : c.cs = scopeOf (stmtAt 30)) (hcl : c.cl = cellsFrom n (scopeOf (stmtAt 30)).names []) (H1 : Fn W 0 "_law_below" belowS)
  (bM : nsIn W.K mainGlobals "max" = some none) (hp : st.places = plc ks) (hd : (ks.map (·.1)).Nodup) (hr : Rep st ep (.node l d r)) (hl : Lm (sh st.off ea (.node l d r))) (hk : ∀ k ∈ (sh st.off ea (.node l d r)).keys, k ∈ ks) (hn : (T.node l d r).ids.length ≤ 900) (hX : X.length ≤ 900)
  (hQ : ∀ ρ2, Sub [("tree", .tree), ("places", .dict), ("waiting", .list st.lists.length), ("blacks", .list (st.lists.length + 1))] ρ2 →
    Qf .next ρ2 (st.wl (st.lists ++ [X ++ [En.v ⟨l, some d.i, if d.red = true then em else em + 1, ea + st.off d.i⟩, En.v ⟨r, some d.i, if d.red = true then em else em + 1, ea + st.off d.i⟩], B]))) :
  TriS W c ((oBody (wBody (bodyOf (stmtAt 30))[1]?)[1]?).drop 1) [("tree", .tree), ("places", .dict), ("waiting", .list st.lists.length), ("blacks", .list (st.lists.length + 1)), ("node", .node d.i), ("parent", ov ep), ("many", .int (em : Int)), ("moved_by", .int ea)] (st.wl (st.lists ++ [X, B])) Qf := by
  obtain ⟨ha, _, _⟩ := id hr
  have hoff : ∀ x, (st.wl x).off d.i = st.off d.i := fun _ => rfl
  have hlim : ∀ x, (st.wl x).lim d.i = d.m := fun _ => ha.lim
  have hred : ∀ x, (st.wl x).red d.i = d.red := fun _ => ha.red
  have hlf : ∀ x, (st.wl x).lf d.i = l.top := fun _ => ha.lf
  have hrt : ∀ x, (st.wl x).rt d.i = r.top := fun _ => ha.rt
  refine TriS_cons ?_
  walk_at "ovs"
  refine TriE_max1 ok (by walk_at "ov side") bM (by rfl) ?_
  refine TriE_comp (cl := (c.cl.filter fun p => p.1 = "places")) ok (by rw [hcl, env_of hc, hcl]; rfl) (by decide) rfl (by decide) rfl (fun _ => rfl) ?_
  walk_at "ovs"
  refine ⟨ep, .node l d r, rfl, Rep.congr (st := st) (by rfl) (fun j _ => ⟨rfl, rfl, rfl, rfl, rfl, rfl, rfl, rfl⟩) hr, hn, fun ns hns => ?_⟩
  refine ⟨_, gE ks, rfl, by simp [idv, hns.length_eq]; omega, fun C a ha => ?_, ?_⟩
  · obtain ⟨i, hi, rfl⟩ := List.mem_map.mp ha
    obtain ⟨k, hk1, hk2⟩ := ids_key (O := st.off) (a := ea) (hns.mem_iff.mp hi)
    subst hk2
    have hkk := hk k hk1
    refine C_sub (fun _ _ => rfl) (C_sub (fun _ _ => rfl) ?_)
    refine C_cell (v := .dict) rfl (by rw [hc]; rfl) (by intro h; cases h) (by rw [hcl]; rfl) (by rfl) (by rw [env_of hc]; rfl) (by decide) ?_
    refine C_var (by rfl) (by rw [env_of hc]; rfl) (by decide) ?_
    refine ⟨_, rfl, .tup [.int k.2.1, .int k.2.2], ?_, C_int ⟨1, rfl, .int k.2.2, by decide, by decide, rfl, ?_⟩⟩
    · show (st.places.find? _).map _ = _
      rw [hp]; exact find_plc hd hkk
    · show V.int k.2.2 = V.int (ek ks (k.1 : Int))
      rw [ek_at hd hkk]
  · refine ⟨ns.map fun (i : Nat) => ek ks (i : Int), ?_, ?_, fun M h1 h2 => ?_⟩
    · show (idv ns).map (gE ks) = (ns.map fun (i : Nat) => ek ks (i : Int)).map V.int
      simp [idv, gE]
    · intro e
      have : ns = [] := by simpa using e
      subst this
      have := hns.length_eq
      simp [T.ids, T.keys] at this
    have hM := max_of hd hl hk hns h1 h2
    walk_at "ovs"
    rw [hlim, hoff, hM]
    apply if_ndec <;> intro g1
    · exact absurd rfl g1
    walk_at "ovs"
    rw [hred]
    apply if_b <;> intro g4
    all_goals
      simp only [g4, if_true, if_false, Bool.false_eq_true] at hQ
      walk_at "ovs"
      refine TriE_extend (by rfl) (by rfl) ?_
      walk_at "ovs"
      refine ⟨_, _, rfl, wl2_get0, TriE_listF ?_⟩
      walk_at "ovs"
      refine ⟨_, _, rfl, by simp [nls, nl, nl_ov], by simp, by simp, wl2_get0, by omega, ?_⟩
      rw [hlf, hrt, wl2_set0]
      walk_at "ovs"
      exact hQ _ (Sub.cons rfl (Sub.cons rfl (Sub.cons rfl (Sub.cons rfl Sub.nil))))
inductive wholeS (xs : List V) (st : St) (Q : V → St → Prop) : Prop
  | mk : ∀ t ks, (xs = [.tree, .dict]) → (Z st [] t) → (Good (sh st.off 0 t)) → (st.places = plc ks) → ((ks.map (·.1)).Nodup) → ((∀ k ∈ (sh st.off 0 t).keys, k ∈ ks)) → (st.nn ≤ 900) → (Q (.bool true) st) → wholeS xs st Q
inductive WhW (st : St) (ks : List Kt) (K N : Nat) (m : Nat) (ρ : Env0) (s1 : St) : Prop
  | mk : ∀ es b q, ρ = ([("tree", .tree), ("places", .dict), ("waiting", .list st.lists.length), ("blacks", .list (st.lists.length + 1))] : Env0) → s1 = st.wl (st.lists ++ [es.map En.v, List.replicate b (.int (K : Int))]) →
      (∀ e ∈ es, EnOk st ks K e) → q + (idsOf (enT es)).length = N → es.length + b ≤ q + 1 → 1 ≤ es.length + b → m = 2 * (idsOf (enT es)).length + es.length → WhW st ks K N m ρ s1
theorem whole_body {n : Nat} {t : T} {ks : List Kt} {Q : V → St → Prop} (wk : W.Ok) (ok : c.Ok W 1) (hc : c.cs = scopeOf (stmtAt 30)) (hcl : c.cl = cellsFrom n (scopeOf (stmtAt 30)).names []) (H1 : Fn W 0 "_law_below" belowS)
  (bM : nsIn W.K mainGlobals "max" = some none) (bm : nsIn W.K mainGlobals "min" = some none)
  (h : Z st [] t) (g : Good (sh st.off 0 t)) (hp : st.places = plc ks) (hd : (ks.map (·.1)).Nodup) (hk : ∀ k ∈ (sh st.off 0 t).keys, k ∈ ks) (hn : st.nn ≤ 900) (hq : Q (.bool true) st) :
  TriS W c (bodyOf (stmtAt 30)) [("tree", .tree), ("places", .dict)] st (LeaveQ st.lists.length Q) := by
  obtain ⟨K, hK⟩ := g.bh
  have hlen : t.ids.length ≤ 900 := by
    have := h.len
    rw [keysAt_nil] at this
    simp only [T.ids, List.length_map]; omega
  have hroot : st.root = t.top := h.rc
  have e0 : EnOk st ks K ⟨t, none, 0, 0⟩ := ⟨h.rt, ⟨K, sh_BH.mp hK, by simp⟩, g.lm, hk, fun e => by
    have := g.red
    rw [sh_red] at this
    cases e.symm.trans this⟩
  refine TriS_cons ?_
  refine TriX_swap (names := ["waiting", "blacks"]) ok (by rw [hc]; decide) (by rw [env_of hc]; rfl) (by rw [env_of hc]; rfl) ?_
  walk_at "ovs"
  refine TriE_list ?_
  walk_at "ovs"
  refine ⟨⟨by simp, by simp [nls, nl, nl_ov]⟩, ?_⟩
  refine TriEs_cons rfl ?_
  refine TriE_list (TriEs_nil ⟨⟨by decide, rfl⟩, ?_⟩)
  refine TriEs_nil ⟨by simp, _, rfl, rfl, ?_⟩
  rw [addL2, addL_len, hroot]
  refine TriS_cons ?_
  refine TriX_while (WhW st ks K t.ids.length)
    ⟨_, _, Sub.cons rfl (Sub.cons rfl (Sub.cons rfl (Sub.cons rfl Sub.nil))), [⟨t, none, 0, 0⟩], 0, 0, rfl, rfl, fun e he => by rw [List.mem_singleton.mp he]; exact e0, by simp [idsOf, enT], by simp, by simp, rfl⟩ ?_
  rintro m ρ s1 ⟨es, b, q, rfl, rfl, h1, h2, h3, h4, rfl⟩
  refine TriT_lcmp ok rfl ?_
  walk_at "ovs"
  refine TriE_listF (TriEs_nil ⟨by simp, _, _, wl2_get0, rfl, .inl ⟨rfl, rfl, ?_⟩⟩)
  walk_at "ovs"
  apply if_nb <;> intro g1
  · rcases eq_nil_or_snoc es with rfl | ⟨es', e, rfl⟩
    · cases g1
    have he := h1 e (by simp)
    have ees : (es' ++ [e]).map En.v = es'.map En.v ++ [e.v] := by simp
    rw [ees]
    refine TriS_cons ?_
    refine TriX_unpack (names := [("node", _), ("parent", _), ("many", _), ("moved_by", _)]) ok (by rw [hc]; decide) (by rw [env_of hc]; rfl) (by rw [env_of hc]; rfl) rfl rfl ?_
    refine TriE_pop (by rfl) ?_
    walk_at "ovs"
    refine ⟨_, _, _, rfl, wl2_get0, by simp at h3 ⊢; omega, ?_⟩
    rw [wl2_set0]
    obtain ⟨et, ep, em, ea⟩ := e
    refine ⟨_, rfl, rfl, ?_⟩
    dsimp only
    walk_at "ovs"
    rcases et with _ | ⟨l, d, r⟩
    · apply if_dec <;> intro g2
      · walk_at "ovs"
        refine TriE_append (by rfl) (by rfl) ?_
        walk_at "ovs"
        refine ⟨_, _, rfl, wl2_get1, ?_⟩
        walk_at "ovs"
        refine ⟨_, _, rfl, wl2_get1, rfl, by simp at h3 ⊢; omega, ?_⟩
        rw [wl2_set1]
        walk_at "ovs"
        obtain ⟨nb, hb1, hb2⟩ := he.bh
        have hb1 : nb = 0 := hb1
        have hem : em = K := by have : em + nb = K := hb2; omega
        refine ⟨2 * (idsOf (enT es')).length + es'.length, _, ?_, Sub.cons rfl (Sub.cons rfl (Sub.cons rfl (Sub.cons rfl Sub.nil))), es', b + 1, q, rfl, ?_, fun x hx => h1 x (by simp [hx]), ?_, ?_, ?_, rfl⟩
        · simp [idsOf, enT, T.ids, T.keys]
        · rw [hem, List.replicate_succ']
        · rw [← h2]; simp [idsOf, enT, T.ids, T.keys]
        · simp at h3; omega
        · omega
      · exact absurd rfl g2
    · apply if_dec <;> intro g2
      · cases g2
      have hrep : Rep st ep (.node l d r) := he.rep
      obtain ⟨ha, hl', hr'⟩ := id hrep
      have hpa : ∀ x, (st.wl x).pa d.i = ep := fun _ => ha.pa
      have hred : ∀ x, (st.wl x).red d.i = d.red := fun _ => ha.red
      have hidl : (T.node l d r).ids.length ≤ 900 := by
        have := h2
        simp [idsOf, enT] at this
        omega
      have fin : ∀ ρ2 : Env0, Sub [("tree", .tree), ("places", .dict), ("waiting", .list st.lists.length), ("blacks", .list (st.lists.length + 1))] ρ2 → Next (WhW st ks K t.ids.length) (2 * (idsOf (enT (es' ++ [⟨.node l d r, ep, em, ea⟩]))).length + (es' ++ [(⟨.node l d r, ep, em, ea⟩ : En)]).length) ρ2
          (st.wl (st.lists ++ [es'.map En.v ++ [En.v ⟨l, some d.i, if d.red = true then em else em + 1, ea + st.off d.i⟩, En.v ⟨r, some d.i, if d.red = true then em else em + 1, ea + st.off d.i⟩], List.replicate b (.int (K : Int))])) := by
        intro ρ2 hsub
        obtain ⟨nb, hb1, hb2⟩ := he.bh
        have hcol : ∀ t' : T, (t' = l ∨ t' = r) → t'.red = true → ∃ j, (some d.i : Option Nat) = some j ∧ st.red j = false := fun t' ht hr => by
          refine ⟨d.i, rfl, ?_⟩
          rw [ha.red]
          cases hdr : d.red with
          | false => rfl
          | true =>
            rcases hb1 with ⟨_, r1, r2, _, _⟩ | ⟨r1, _⟩
            · rcases ht with rfl | rfl
              · cases r1.symm.trans hr
              · cases r2.symm.trans hr
            · cases r1.symm.trans hdr
        have hbh : ∀ t' : T, (t' = l ∨ t' = r) → ∃ n', BH t' n' ∧ (if d.red = true then em else em + 1) + n' = K := fun t' ht => by
          have hb2 : em + nb = K := hb2
          rcases hb1 with ⟨e, _, _, b1, b2⟩ | ⟨e, nb', rfl, b1, b2⟩
          · rw [if_pos e]
            rcases ht with rfl | rfl
            · exact ⟨nb, b1, hb2⟩
            · exact ⟨nb, b2, hb2⟩
          · rw [if_neg (by rw [e]; simp)]
            rcases ht with rfl | rfl
            · exact ⟨nb', b1, by omega⟩
            · exact ⟨nb', b2, by omega⟩
        obtain ⟨lm1, lm2, lm3⟩ := he.lm
        have hks := he.ks
        simp only [sh, T.keys, List.mem_append, List.mem_cons] at hks
        refine ⟨_, _, ?_, hsub, es' ++ [⟨l, some d.i, if d.red = true then em else em + 1, ea + st.off d.i⟩, ⟨r, some d.i, if d.red = true then em else em + 1, ea + st.off d.i⟩], b, q + 1, rfl, by simp, fun x hx => ?_, ?_, ?_, by simp; omega, rfl⟩
        · simp [idsOf, enT, T.ids, T.keys]; omega
        · simp only [List.mem_append, List.mem_cons, List.not_mem_nil, or_false] at hx
          rcases hx with hx | rfl | rfl
          · exact h1 x (by simp [hx])
          · exact ⟨hl', hbh l (.inl rfl), lm2, fun k hk => hks k (.inl hk), hcol l (.inl rfl)⟩
          · exact ⟨hr', hbh r (.inr rfl), lm3, fun k hk => hks k (.inr (.inr hk)), hcol r (.inr rfl)⟩
        · rw [← h2]; simp [idsOf, enT, T.ids, T.keys]; omega
        · simp at h3 ⊢; omega
      have hrest := fun Qf hQ => whole_rest (X := es'.map En.v) (B := List.replicate b (.int (K : Int))) (em := em) (Qf := Qf) wk ok hc hcl H1 bM hp hd hrep he.lm he.ks hidl (by simp at h3 ⊢; omega) hQ
      walk_at "ovs"
      apply if_ndec <;> intro g3
      · exact absurd (hpa _) g3
      walk_at "ovs"
      rw [hred]
      apply if_b <;> intro g4
      · obtain ⟨j, hj1, hj2⟩ := he.red g4
        have hj1 : ep = some j := hj1
        subst hj1
        have hjr : ∀ x, (st.wl x).red j = false := fun _ => hj2
        walk_at "ovs"
        apply if_dec <;> intro g5
        · cases g5
        walk_at "ovs"
        rw [hjr]
        repeat (first | exact hrest _ (fun ρ2 hsub => TriS_nil (fin ρ2 hsub)) | walk_at "ov")
      · repeat (first | exact hrest _ (fun ρ2 hsub => TriS_nil (fin ρ2 hsub)) | walk_at "ov")
  · have e0 : es = [] := by
      cases es with
      | nil => rfl
      | cons a b => cases g1
    subst e0
    have hb : List.replicate b (V.int (K : Int)) = (List.replicate b (K : Int)).map V.int := by simp
    have hb0 : b ≠ 0 := by simp at h4; omega
    have hbl : List.replicate b (K : Int) ≠ [] := by simp [hb0]
    have hM : ∀ M, M ∈ List.replicate b (K : Int) → M = K := fun M h => (List.mem_replicate.mp h).2
    refine TriS_cons ?_
    refine TriX_ret ?_
    refine TriE_cmp rfl ?_
    refine TriE_min1 ok (by walk_at "ov side") bm (by rfl) ?_
    walk_at "ovs"
    refine ⟨_, by rw [← hb]; exact wl2_get1, hbl, fun M1 a1 _ => ?_⟩
    refine TriE_max1 ok (by walk_at "ov side") bM (by rfl) ?_
    walk_at "ovs"
    refine ⟨_, by rw [← hb]; exact wl2_get1, hbl, fun M2 a2 _ => ?_⟩
    rw [hM M1 a1, hM M2 a2]
    walk_at "ovs"
    refine ⟨rfl, ?_⟩
    rw [decide_eq_true rfl]
    show Q (.bool true) (leaveSt st.lists.length _)
    rw [leave_wl]; exact hq
theorem fn_whole (wk : W.Ok) (D : Defd W "_law_is_whole" 30) (H1 : Fn W 0 "_law_below" belowS) (bM : nsIn W.K mainGlobals "max" = some none) (bm : nsIn W.K mainGlobals "min" = some none) : Fn W 1 "_law_is_whole" wholeS :=
  Fn.mk D fun f hf => FnOK.of_bodyC (ns := ["tree", "places"]) (us := []) hf (fun _ _ _ _ _ => args2 fun _ _ => rfl) (by decide) (by
      intro n x hx
      simp only [List.mem_cons, List.not_mem_nil, or_false] at hx
      rcases hx with rfl | rfl
      · exact .inl rfl
      · exact .inr ⟨rfl, rfl⟩) (by rintro xs st Q ⟨t, ks, rfl, -⟩; rfl) (by intro _ x hx; cases hx) (by decide)
    (by rintro c st xs Q n ok hc hcl ⟨t, ks, rfl, h1, h2, h3, h4, h5, h6, h7⟩; exact whole_body wk ok hc hcl H1 bM bm h1 h2 h3 h4 h5 h6 h7) rfl rfl rfl
end
end
-- == M37
section
open PySem PySem.W PySem.Calls PyProof.Rows
set_option linter.unusedVariables false
set_option linter.unusedSimpArgs false
set_option maxRecDepth 100000
set_option maxHeartbeats 4000000
section
variable {W : Wc} {c : Fc} {ρ : Env0} {st : St}

noncomputable def kt3 (k : Kt) : Int × Int × Int := ((k.1 : Int), k.2.1, k.2.2)
noncomputable def bk (ks : List Kt) (i : Int) : Int := ((ks.find? fun k => decide ((k.1 : Int) = i)).map (·.2.1)).getD 0
theorem bk_at {ks : List Kt} (hd : (ks.map (·.1)).Nodup) {k : Kt} (h : k ∈ ks) : bk ks (k.1 : Int) = k.2.1 := by
  induction ks with
  | nil => cases h
  | cons x r ih =>
    simp only [List.map_cons, List.nodup_cons] at hd
    unfold bk
    rw [List.find?_cons]
    by_cases e : x.1 = k.1
    · have : k = x := key_uniq (ks := x :: r) (by rw [List.map_cons, List.nodup_cons]; exact hd) h (.head _) e.symm
      subst this; simp
    · have e2 : decide ((x.1 : Int) = (k.1 : Int)) = false := decide_eq_false (by omega)
      rw [e2]
      rcases List.mem_cons.mp h with h | h
      · exact absurd (by rw [h]) e
      · exact ih hd.2 h
noncomputable def g3 (st : St) : V → V
  | .node i => .tup [.int (st.num i), .int (st.bg i), .int (st.en i)]
  | v => v
noncomputable def gP (ks : List Kt) : V → V
  | .int i => .tup [.int i, .int (bk ks i), .int (ek ks i)]
  | v => v
noncomputable def gB (st : St) : V → V
  | .node i => .int (st.bg i)
  | v => v
noncomputable def gN (st : St) : V → V
  | .node i => .int (st.num i)
  | v => v
noncomputable def pzD (ks : List Kt) (lo hi : Int) : V → Bool
  | .int i => decide (bk ks i ≤ hi) && decide (lo ≤ ek ks i)
  | _ => false
theorem int_key {ks : List Kt} {ms : List Int} (hp : ms.Perm ((plc ks).map (·.1))) {m : Int} (hm : m ∈ ms) : ∃ k ∈ ks, (k.1 : Int) = m := by
  have := hp.mem_iff.mp hm
  rw [plc, List.map_map] at this
  obtain ⟨k, h1, h2⟩ := List.mem_map.mp this
  exact ⟨k, h1, h2⟩
theorem plc_fst {ks : List Kt} : (plc ks).map (·.1) = ks.map fun k => (k.1 : Int) := by rw [plc, List.map_map]; rfl
theorem lookup_inj {l : List (Str × Addr)} (hn : (l.map (·.2)).Nodup) {x y : Str} {a : Addr} (h1 : l.lookup x = some a) (h2 : l.lookup y = some a) : x = y := by
  have m1 := mem_of_lookup h1
  have m2 := mem_of_lookup h2
  clear h1 h2
  induction l with
  | nil => cases m1
  | cons p r ih =>
    rw [List.map_cons, List.nodup_cons] at hn
    rcases List.mem_cons.mp m1 with e1 | m1 <;> rcases List.mem_cons.mp m2 with e2 | m2
    · rw [← e1] at e2; cases e2; rfl
    · exact absurd (List.mem_map_of_mem (f := (·.2)) m2) (by rw [← e1] at hn; exact hn.1)
    · exact absurd (List.mem_map_of_mem (f := (·.2)) m1) (by rw [← e2] at hn; exact hn.1)
    · exact ih hn.2 m1 m2
theorem nodup_cast {l : List Nat} (h : l.Nodup) : (l.map fun (i : Nat) => (i : Int)).Nodup := by
  induction l with
  | nil => exact .nil
  | cons a r ih =>
    rw [List.nodup_cons] at h
    rw [List.map_cons, List.nodup_cons]
    refine ⟨fun hm => ?_, ih h.2⟩
    obtain ⟨b, hb, e⟩ := List.mem_map.mp hm
    exact h.1 (by have : b = a := by omega
                  exact this ▸ hb)
inductive foundS (xs : List V) (st : St) (Q : V → St → Prop) : Prop
  | mk : ∀ p n P t ks, (xs = [.list p, .tree, .dict]) → (Z st [] t) → ((∀ j, j ∉ t.ids → st.off j = 0)) → (Good (sh st.off 0 t)) → (SK (sh st.off 0 t).keys) → (st.places = plc ks) → (ks.Perm (sh st.off 0 t).keys) → (st.nn ≤ 60) → (st.cnt = (ks.length : Int)) → (st.lists[p]? = some P) → (PotL P n) → (n ≤ 2 ^ 50) → (∀ st' P', Z st' [] (sh st.off 0 t) → (∀ j, st'.off j = 0) → st'.nn = st.nn → st'.cnt = st.cnt → st'.places = st.places → st'.lists = st.lists.set p P' → PotL P' (n + 2) → Q (.bool true) st') → foundS xs st Q
theorem found_body {n0 p n : Nat} {P : List V} {t : T} {ks : List Kt} {Q : V → St → Prop} (wk : W.Ok) (ok : c.Ok W 2) (hc : c.cs = scopeOf (stmtAt 29)) (hcl : c.cl = cellsFrom n0 (scopeOf (stmtAt 29)).names [])
  (H1 : Fn W 1 "all_nodes_in_order" allS) (H2 : Fn W 0 "_law_dip" dipS) (H3 : Fn W 1 "nodes_between" btwS) (bS : nsIn W.K mainGlobals "sorted" = some none) (bL : nsIn W.K mainGlobals "len" = some none)
  (h : Z st [] t) (hz : ∀ j, j ∉ t.ids → st.off j = 0) (g : Good (sh st.off 0 t)) (so : SK (sh st.off 0 t).keys) (hp : st.places = plc ks) (hk : ks.Perm (sh st.off 0 t).keys) (hn : st.nn ≤ 60) (hcnt : st.cnt = (ks.length : Int))
  (hP : st.lists[p]? = some P) (hPot : PotL P n) (hnn : n ≤ 2 ^ 50)
  (hq : ∀ st' P', Z st' [] (sh st.off 0 t) → (∀ j, st'.off j = 0) → st'.nn = st.nn → st'.cnt = st.cnt → st'.places = st.places → st'.lists = st.lists.set p P' → PotL P' (n + 2) → Q (.bool true) st') :
  TriS W c (bodyOf (stmtAt 29)) [("pot", .list p), ("tree", .tree), ("places", .dict), ("low", .un), ("high", .un)] st (LeaveQ st.lists.length Q) := by
  have hids : (sh st.off 0 t).ids = t.ids := sh_ids
  have hnd : ((sh st.off 0 t).keys.map (·.1)).Nodup := by
    have : (sh st.off 0 t).ids.Nodup := by rw [hids]; exact (dj_iff.mp h.nd).ht
    exact this
  have hkd : (ks.map (·.1)).Nodup := (hk.map (·.1)).nodup_iff.mpr hnd
  have hlen : (sh st.off 0 t).keys.length ≤ 60 := by
    have h1 := h.len
    rw [keysAt_nil] at h1
    have h2 : (sh st.off 0 t).keys.length = t.keys.length := by have := congrArg List.length hids; simpa [T.ids] using this
    omega
  have hklen : ks.length ≤ 60 := by rw [hk.length_eq]; exact hlen
  have hcls : ∀ (x y : Str) (a : Addr), c.cl.lookup x = some a → c.cl.lookup y = some a → x = y := by
    rw [hcl]
    exact fun x y a h1 h2 => lookup_inj (cellsFrom_snd (by simp) (fun _ h => by cases h)).1 h1 h2
  rw [← hids] at hz
  generalize hw : sh st.off 0 t = w at *
  refine TriS_cons ?_
  walk_at "ovs"
  refine ⟨t, rfl, h, by rw [← hids]; exact hz, by omega, fun s1 z1 o1 k1 => ?_⟩
  rw [hw] at z1
  rw [← hids]
  have hv := z1.rt.vals
  have hp1 : s1.places = plc ks := k1.places.trans hp
  have hL1 : s1.lists = st.lists := k1.lists
  have hP1 : s1.lists[p]? = some P := by rw [hL1]; exact hP
  have hn1 : s1.nn ≤ 900 := by rw [k1.nn]; omega
  have hsd : s1.places.length < 64 := by rw [hp1]; simp [plc]; omega
  have endv : w.ids.map V.node = ndv w.ids := rfl
  refine TriS_cons (TriX_if (TriT_lcmp ok rfl ?_))
  refine TriE_sortedT ok (by walk_at "ov side") bS (by rfl) ?_
  refine TriE_comp (cl := []) ok (by rw [env_of hc]; rfl) (by decide) rfl (by decide) rfl (fun _ => rfl) ?_
  walk_at "ovs"
  refine ⟨_, g3 s1, rfl, by simp [ndv, T.ids]; omega, fun C a ha => ?_, ?_⟩
  · obtain ⟨i, hi, rfl⟩ := List.mem_map.mp ha
    refine C_tuple (Cs_cons rfl (C_attr wk ok rfl (C_var (by rfl) (by rw [env_of hc]; rfl) (by decide) (getV_num ?_))))
    refine Cs_cons rfl (C_attr wk ok rfl (C_var (by rfl) (by rw [env_of hc]; rfl) (by decide) (getV_bg ?_)))
    refine Cs_cons rfl (C_attr wk ok rfl (C_var (by rfl) (by rw [env_of hc]; rfl) (by decide) (getV_en ?_)))
    exact Cs_nil ⟨by simp, rfl⟩
  have e1 : (ndv w.ids).map (g3 s1) = (w.keys.map kt3).map v3 := by
    unfold ndv T.ids
    rw [List.map_map, List.map_map, List.map_map]
    refine List.map_congr_left fun k hk => ?_
    obtain ⟨v1, v2, v3'⟩ := hv k hk
    simp only [Function.comp, g3, kt3, v3, v1, v2, v3']
  have hnd3 : ((w.keys.map kt3).map (·.1)).Nodup := by
    rw [List.map_map]
    have : (w.keys.map fun k => (k.1 : Int)) = (w.keys.map (·.1)).map fun (i : Nat) => (i : Int) := by rw [List.map_map]; rfl
    show (w.keys.map fun k => (k.1 : Int)).Nodup
    rw [this]
    exact nodup_cast hnd
  refine ⟨w.keys.map kt3, e1, by simp; omega, hnd3, fun us hus hso => ?_⟩
  refine TriE_comp (cl := c.cl.filter fun p => p.1 = "places") ok (by rw [hcl, env_of hc, hcl]; rfl) (by decide) rfl (by decide) rfl (fun _ => rfl) ?_
  refine TriE_sorted ok (by walk_at "ov side") bS (by rfl) ?_
  walk_at "ovs"
  refine .inr ⟨rfl, hsd, fun ms hms hmo => ?_⟩
  rw [hp1] at hms
  refine ⟨_, gP ks, rfl, ?_, fun C a ha => ?_, ?_⟩
  · rw [List.length_map, hms.length_eq]; simp [plc]; omega
  · obtain ⟨i, hi, rfl⟩ := List.mem_map.mp ha
    obtain ⟨k, hk1, rfl⟩ := int_key hms hi
    refine C_tuple (Cs_cons rfl (C_var (by rfl) (by rw [env_of hc]; rfl) (by decide) ?_))
    refine Cs_cons rfl (C_sub (fun _ _ => rfl) (C_sub (fun _ _ => rfl) (C_cell (v := .dict) rfl (by rw [hc]; rfl) (by intro h; cases h) (by rw [hcl]; rfl) (by rfl) (by rw [env_of hc]; rfl) (by decide) (C_var (by rfl) (by rw [env_of hc]; rfl) (by decide) ?_))))
    refine ⟨_, rfl, .tup [.int k.2.1, .int k.2.2], by rw [hp1]; exact find_plc hkd hk1, C_int ⟨0, rfl, .int k.2.1, by decide, by decide, rfl, ?_⟩⟩
    refine Cs_cons rfl (C_sub (fun _ _ => rfl) (C_sub (fun _ _ => rfl) (C_cell (v := .dict) rfl (by rw [hc]; rfl) (by intro h; cases h) (by rw [hcl]; rfl) (by rfl) (by rw [env_of hc]; rfl) (by decide) (C_var (by rfl) (by rw [env_of hc]; rfl) (by decide) ?_))))
    refine ⟨_, rfl, .tup [.int k.2.1, .int k.2.2], by rw [hp1]; exact find_plc hkd hk1, C_int ⟨1, rfl, .int k.2.2, by decide, by decide, rfl, ?_⟩⟩
    refine Cs_nil ⟨by simp, ?_⟩
    show _ = V.tup [_, .int (bk ks (k.1 : Int)), .int (ek ks (k.1 : Int))]
    rw [bk_at hkd hk1, ek_at hkd hk1]
  have hmn : ms.Nodup := hms.nodup_iff.mpr (by
    rw [plc_fst]
    have : (ks.map fun k => (k.1 : Int)) = (ks.map (·.1)).map fun (i : Nat) => (i : Int) := by rw [List.map_map]; rfl
    rw [this]; exact nodup_cast hkd)
  have hml := lt_of_le_nodup hmo hmn
  have hus2 : us = ms.map fun m => (m, bk ks m, ek ks m) := by
    refine sorted_uniq (f := fun x => x.1) ?_ hso ?_
    · refine hus.trans (List.Perm.trans ?_ (hms.map fun m => (m, bk ks m, ek ks m)).symm)
      rw [plc_fst, List.map_map]
      refine List.Perm.trans (hk.map kt3).symm ?_
      rw [List.map_congr_left (g := (fun m => (m, bk ks m, ek ks m)) ∘ fun k : Kt => (k.1 : Int))]
      intro k hk
      simp only [Function.comp, kt3, bk_at hkd hk, ek_at hkd hk]
    · rw [List.pairwise_map]; exact hml
  refine ⟨us.map v3, us.map v3, rfl, ?_, .inr (.inr ⟨rfl, us, us, rfl, rfl, ?_⟩)⟩
  · show (ms.map V.int).map (gP ks) = us.map v3
    rw [hus2, List.map_map, List.map_map]; rfl
  refine ⟨_, rfl, ?_⟩
  apply if_ndec <;> intro g1
  · exact absurd rfl g1
  refine TriS_nil ?_
  refine TriS_cons ?_
  refine TriX_comp (cl := []) ok (by walk_at "ov side") (by rw [env_of hc]; rfl) (by rw [env_of hc]; rfl) (by decide) rfl (by decide) rfl (fun _ => rfl) ?_
  walk_at "ovs"
  refine ⟨_, gB s1, rfl, by simp [ndv, T.ids]; omega, fun C a ha => ?_, ?_⟩
  · obtain ⟨i, hi, rfl⟩ := List.mem_map.mp ha
    exact C_attr wk ok rfl (C_var (by rfl) (by rw [env_of hc]; rfl) (by decide) (getV_bg rfl))
  have e2 : (ndv w.ids).map (gB s1) = (w.keys.map (·.2.1)).map V.int := by
    unfold ndv T.ids
    rw [List.map_map, List.map_map, List.map_map]
    refine List.map_congr_left fun k hk => ?_
    obtain ⟨v1, v2, v3'⟩ := hv k hk
    simp only [Function.comp, gB, v2]
  rw [e2]
  refine TriS_cons ?_
  refine TriX_cellname (a0 := .un) ok (by walk_at "ov side") rfl hcls (by rw [env_of hc]; rfl) ?_
  walk_at "ovs"
  refine ⟨p, 44, n, P, rfl, by decide, hP1, hPot, by omega, fun P1 lo hP1' _ _ => ?_⟩
  refine TriS_cons ?_
  refine TriX_cellname (a0 := .un) ok (by walk_at "ov side") rfl hcls (by rw [env_of hc]; rfl) ?_
  walk_at "ovs"
  refine ⟨p, 9, n + 1, P1, rfl, by decide, setL_get hP1, hP1', by omega, fun P2 r hP2 _ _ => ?_⟩
  rw [setL_setL]
  refine binV_Add ?_
  generalize hhi : lo + r = hi
  have z2 : Z (s1.setL p P2) [] w := z1.wl
  have hp2 : (s1.setL p P2).places = plc ks := hp1
  have hL2 : (s1.setL p P2).lists = st.lists.set p P2 := by show s1.lists.set p P2 = _; rw [hL1]
  have hfin : Q (.bool true) (s1.setL p P2) := hq _ P2 z2 o1 k1.nn k1.cnt k1.places hL2 hP2
  have hcn : (s1.setL p P2).cnt = (ks.length : Int) := k1.cnt.trans hcnt
  have hnum2 : (s1.setL p P2).num = s1.num := rfl
  have o2 : ∀ j, (s1.setL p P2).off j = 0 := o1
  have hn2 : (s1.setL p P2).nn ≤ 900 := hn1
  have hll : (s1.setL p P2).lists.length = st.lists.length := by rw [hL2]; simp
  generalize s1.setL p P2 = s2 at z2 hp2 hfin hcn hnum2 o2 hn2 hll
  refine TriS_cons ?_
  refine TriX_comp (cl := []) ok (by walk_at "ov side") (by rw [env_of hc]; rfl) (by rw [env_of hc]; rfl) (by decide) rfl (by decide) rfl (fun _ => rfl) ?_
  walk_at "ovs"
  refine ⟨w, lo, hi, rfl, z2, o2, g.lm, so, hn2, ?_⟩
  refine ⟨_, gN s2, rfl, ?_, fun C a ha => ?_, ?_⟩
  · have := List.length_filter_le (inR lo hi) w.keys
    simp [ndv]; omega
  · obtain ⟨i, hi, rfl⟩ := List.mem_map.mp ha
    exact C_attr wk ok rfl (C_var (by rfl) (by rw [env_of hc]; rfl) (by decide) (getV_num rfl))
  have e3 : (ndv ((w.keys.filter (inR lo hi)).map (·.1))).map (gN s2) = ((w.keys.filter (inR lo hi)).map fun k => (k.1 : Int)).map V.int := by
    unfold ndv
    rw [List.map_map, List.map_map, List.map_map]
    refine List.map_congr_left fun k hk => ?_
    obtain ⟨v1, v2, v3'⟩ := hv k (List.mem_filter.mp hk).1
    simp only [Function.comp, gN, hnum2, v1]
  rw [e3]
  refine TriS_cons ?_
  refine TriX_compT (cl := [(("places" : Str), (c.cl.lookup ("places" : Str)).getD 0), (("low" : Str), (c.cl.lookup ("low" : Str)).getD 0), (("high" : Str), (c.cl.lookup ("high" : Str)).getD 0)]) ok (by walk_at "ov side") (by rw [env_of hc]; rfl) (by rw [hcl, env_of hc, hcl]; rfl) (by decide) rfl (by decide) rfl (fun _ => rfl) ?_
  refine TriE_sorted ok (by walk_at "ov side") bS (by rfl) ?_
  walk_at "ovs"
  refine .inr ⟨rfl, by rw [hp2]; simp [plc]; omega, fun ms2 hms2 hmo2 => ?_⟩
  rw [hp2] at hms2
  refine ⟨_, id, pzD ks lo hi, rfl, ?_, fun C a ha => ?_, fun C a ha => ?_, ?_⟩
  · rw [List.length_map, hms2.length_eq]; simp [plc]; omega
  · obtain ⟨i, hi', rfl⟩ := List.mem_map.mp ha
    obtain ⟨k, hk1, rfl⟩ := int_key hms2 hi'
    have hfi : (s2.places.find? fun p => p.1 = (k.1 : Int)).map (·.2) = some (.tup [.int k.2.1, .int k.2.2]) := by rw [hp2]; exact find_plc hkd hk1
    refine CT_and (CT_cmp rfl (C_sub (fun _ _ => rfl) (C_sub (fun _ _ => rfl) (C_cell (v := .dict) rfl (by rw [hc]; rfl) (by intro h; cases h) (by rw [hcl]; rfl) (by rfl) (by rw [env_of hc]; rfl) (by decide) (C_var (by rfl) (by rw [env_of hc]; rfl) (by decide) ?_)))))
    refine ⟨_, rfl, .tup [.int k.2.1, .int k.2.2], hfi, C_int ⟨0, rfl, .int k.2.1, by decide, by decide, rfl, ?_⟩⟩
    refine C_cell (v := .int hi) rfl (by rw [hc]; rfl) (by intro h; cases h) (by rw [hcl]; rfl) (by rfl) (by rw [env_of hc]; rfl) (by decide) (cmpV_LtE (truthV_bool ?_))
    have hpz : pzD ks lo hi (.int (k.1 : Int)) = (decide (k.2.1 ≤ hi) && decide (lo ≤ k.2.2)) := by
      show (decide (bk ks (k.1 : Int) ≤ hi) && decide (lo ≤ ek ks (k.1 : Int))) = _
      rw [bk_at hkd hk1, ek_at hkd hk1]
    apply if_dec <;> intro q1
    · refine CT_and1 (CT_cmp rfl (C_sub (fun _ _ => rfl) (C_sub (fun _ _ => rfl) (C_cell (v := .dict) rfl (by rw [hc]; rfl) (by intro h; cases h) (by rw [hcl]; rfl) (by rfl) (by rw [env_of hc]; rfl) (by decide) (C_var (by rfl) (by rw [env_of hc]; rfl) (by decide) ?_)))))
      refine ⟨_, rfl, .tup [.int k.2.1, .int k.2.2], hfi, C_int ⟨1, rfl, .int k.2.2, by decide, by decide, rfl, ?_⟩⟩
      refine C_cell (v := .int lo) rfl (by rw [hc]; rfl) (by intro h; cases h) (by rw [hcl]; rfl) (by rfl) (by rw [env_of hc]; rfl) (by decide) (cmpV_GtE (truthV_bool ?_))
      rw [hpz]; simp [q1]
    · rw [hpz]; simp [q1]
  · exact C_var (by rfl) (by rw [env_of hc]; rfl) (by decide) rfl
  have e4 : (((ms2.map V.int).filter (pzD ks lo hi)).map id) = (ms2.filter fun i => decide (bk ks i ≤ hi) && decide (lo ≤ ek ks i)).map V.int := by
    rw [List.map_id, List.filter_map]; rfl
  rw [e4]
  refine TriS_cons (TriX_ret (TriE_and (TriE_lcmp ok rfl ?_)))
  walk_at "ovs"
  refine TriE_sorted ok (by walk_at "ov side") bS (by rfl) ?_
  walk_at "ovs"
  refine .inl ⟨_, rfl, by simp; omega, fun ms3 hms3 hmo3 => ?_⟩
  have e5 : ms3 = w.keys.map (·.2.1) := sorted_uniq_le hms3 hmo3 (by rw [List.pairwise_map]; exact so)
  subst e5
  refine ⟨_, _, rfl, rfl, .inr (.inl ⟨rfl, _, _, rfl, rfl, ⟨_, rfl, ?_⟩⟩)⟩
  rw [decide_eq_true rfl]
  refine if_t (TriE_and (TriE_lcmp ok rfl ?_))
  refine TriE_sorted ok (by walk_at "ov side") bS (by rfl) ?_
  walk_at "ovs"
  refine .inl ⟨_, rfl, ?_, fun ms4 hms4 hmo4 => ?_⟩
  · have := List.length_filter_le (inR lo hi) w.keys
    simp; omega
  walk_at "ovs"
  have e6 : ms4 = ms2.filter fun i => decide (bk ks i ≤ hi) && decide (lo ≤ ek ks i) := by
    refine sorted_uniq_le ?_ hmo4 (hmo2.filter _)
    refine hms4.trans ?_
    refine List.Perm.trans ?_ (hms2.filter _).symm
    rw [plc_fst, List.filter_map]
    refine List.Perm.map _ ?_
    refine (hk.symm.filter (inR lo hi)).trans ?_
    rw [List.filter_congr fun k hk => ?_]
    simp only [Function.comp, inR, bk_at hkd hk, ek_at hkd hk]
  refine ⟨_, _, rfl, rfl, .inr (.inl ⟨rfl, _, _, rfl, rfl, ⟨_, rfl, ?_⟩⟩)⟩
  rw [decide_eq_true e6]
  refine if_t (TriE_bool1 ?_)
  walk_at "ovs"
  refine ⟨ks.length, .inr ⟨rfl, by rw [hp2]; simp [plc]⟩, by omega, ?_⟩
  refine cmpV_Eq ?_
  rw [hcn, decide_eq_true rfl]
  exact leave_ret rfl hll hfin
theorem fn_found (wk : W.Ok) (D : Defd W "_law_is_found" 29) (H1 : Fn W 1 "all_nodes_in_order" allS) (H2 : Fn W 0 "_law_dip" dipS) (H3 : Fn W 1 "nodes_between" btwS) (bS : nsIn W.K mainGlobals "sorted" = some none) (bL : nsIn W.K mainGlobals "len" = some none) : Fn W 2 "_law_is_found" foundS :=
  Fn.mk D fun f hf => FnOK.of_bodyC (ns := ["pot", "tree", "places"]) (us := ["low", "high"]) hf (fun _ _ _ _ _ => args3 fun _ _ _ => rfl) (by decide) (by
      intro n x hx
      simp only [List.mem_cons, List.not_mem_nil, or_false] at hx
      rcases hx with rfl | rfl | rfl
      · exact .inl rfl
      · exact .inl rfl
      · exact .inr ⟨rfl, rfl⟩) (by rintro xs st Q ⟨p, n, P, t, ks, rfl, -⟩; rfl) (by
      intro n x hx
      simp only [List.mem_cons, List.not_mem_nil, or_false] at hx
      rcases hx with rfl | rfl
      · exact ⟨by decide, rfl, rfl⟩
      · exact ⟨by decide, rfl, rfl⟩) (by decide)
    (by rintro c st xs Q n0 ok hc hcl ⟨p, n, P, t, ks, rfl, h1, h2, h3, h4, h5, h6, h7, h8, h9, h10, h11, h12⟩; exact found_body wk ok hc hcl H1 H2 H3 bS bL h1 h2 h3 h4 h5 h6 h7 h8 h9 h10 h11 h12) rfl rfl rfl
end
end
-- == M39
section
open PySem PySem.W PySem.Calls PyProof.Rows
set_option linter.unusedVariables false
set_option linter.unusedSimpArgs false
set_option maxRecDepth 100000
set_option maxHeartbeats 4000000
section
variable {W : Wc} {c : Fc} {ρ : Env0} {st : St}

/-- the tree, the nodes, the places and the pot behind a deed -/
structure AS (st : St) (t : T) (ks : List Kt) (n : Nat) : Prop where
  z : Z st [] t
  off : ∀ j, j ∉ t.ids → st.off j = 0
  good : Good (sh st.off 0 t)
  so : SK (sh st.off 0 t).keys
  pl : st.places = plc ks
  pm : ks.Perm (sh st.off 0 t).keys
  cnt : st.cnt = (ks.length : Int)
  ls : ∃ P, st.lists = [P, ndv (List.range st.nn)] ∧ PotL P n
/-- ahead of a deed: no offset at all -/
structure LS (st : St) (t : T) (ks : List Kt) (n : Nat) : Prop where
  as : AS st t ks n
  zero : ∀ j, st.off j = 0
theorem LS.sh {t : T} {ks : List Kt} {n : Nat} (h : LS st t ks n) : sh st.off 0 t = t := sh_zero fun j _ => h.zero j
theorem LS.of {t : T} {ks : List Kt} {n : Nat} (z : Z st [] t) (zero : ∀ j, st.off j = 0) (g : Good t) (so : SK t.keys) (pl : st.places = plc ks) (pm : ks.Perm t.keys) (cnt : st.cnt = (ks.length : Int)) (ls : ∃ P, st.lists = [P, ndv (List.range st.nn)] ∧ PotL P n) : LS st t ks n := by
  have e : Ov.sh st.off 0 t = t := sh_zero fun j _ => zero j
  exact ⟨⟨z, fun j _ => zero j, by rw [e]; exact g, by rw [e]; exact so, pl, by rw [e]; exact pm, cnt, ls⟩, zero⟩
theorem LS.nd {t : T} {ks : List Kt} {n : Nat} (h : LS st t ks n) : (ks.map (·.1)).Nodup := by
  have h1 := h.as.pm
  rw [h.sh] at h1
  have h2 : (t.keys.map (·.1)).Nodup := (dj_iff.mp h.as.z.nd).ht
  exact (h1.map (·.1)).nodup_iff.mpr h2
theorem LS.len {t : T} {ks : List Kt} {n : Nat} (h : LS st t ks n) : ks.length ≤ st.nn := by
  have h1 := h.as.pm
  rw [h.sh] at h1
  rw [h1.length_eq]
  have := h.as.z.len
  rwa [keysAt_nil] at this
theorem LS.lt {t : T} {ks : List Kt} {n : Nat} (h : LS st t ks n) : ∀ k ∈ ks, k.1 < st.nn ∧ k.1 ∈ t.ids := fun k hk => by
  have h1 := h.as.pm
  rw [h.sh] at h1
  have : k.1 ∈ t.ids := List.mem_map_of_mem (f := (·.1)) (h1.mem_iff.mp hk)
  exact ⟨h.as.z.rt.lt _ this, this⟩
/-- the pot is dipped into -/
theorem LS.dip {t : T} {ks : List Kt} {n : Nat} {P' : List V} (h : LS st t ks n) (hP : PotL P' (n + 1)) : LS (st.setL 0 P') t ks (n + 1) := by
  obtain ⟨P, h1, h2⟩ := h.as.ls
  refine ⟨⟨h.as.z.wl, h.as.off, h.as.good, h.as.so, h.as.pl, h.as.pm, h.as.cnt, P', ?_, hP⟩, h.zero⟩
  show st.lists.set 0 P' = _
  rw [h1]; rfl
theorem PotL.mono {P : List V} {n m : Nat} (h : PotL P n) (hm : n ≤ m) : PotL P m := by
  obtain ⟨ns, a, sd, h1, h2, h3, h4⟩ := h
  exact ⟨ns, a, sd, h1, h2, by omega, h4⟩
theorem AS.mono {t : T} {ks : List Kt} {n m : Nat} (h : AS st t ks n) (hm : n ≤ m) : AS st t ks m := by
  obtain ⟨P, h1, h2⟩ := h.ls
  exact ⟨h.z, h.off, h.good, h.so, h.pl, h.pm, h.cnt, P, h1, h2.mono hm⟩
theorem LS.get0 {t : T} {ks : List Kt} {n : Nat} (h : LS st t ks n) : ∃ P, st.lists[0]? = some P ∧ PotL P n := by
  obtain ⟨P, h1, h2⟩ := h.as.ls
  exact ⟨P, by rw [h1]; rfl, h2⟩
theorem dip_i {m : Int} {t : T} {ks : List Kt} {n : Nat} {Q : V → St → Prop} (h : LS st t ks n) (hn : n ≤ 2 ^ 50) (hm : 0 < m) (q : ∀ st' r, LS st' t ks (n + 1) → st'.nn = st.nn → st'.root = st.root → 0 ≤ r → r < m → Q (.int r) st') : dipS [.list 0, .int m] st Q := by
  obtain ⟨P, h1, h2⟩ := h.get0
  exact ⟨0, m, n, P, rfl, hm, h1, h2, by omega, fun P' r h3 h4 h5 => q _ r (h.dip h3) rfl rfl h4 h5⟩

noncomputable def St.atNn (st : St) (m : Nat) : St := { st with nn := m }
theorem Rep.atNn {m : Nat} (hm : st.nn ≤ m) : ∀ {t : T} {p : Option Nat}, Rep st p t → Rep (st.atNn m) p t
  | .nil, _, _ => trivial
  | .node l d r, p, h => ⟨⟨h.1.bg, h.1.en, h.1.lim, h.1.red, h.1.lf, h.1.rt, h.1.pa, h.1.num, Nat.lt_of_lt_of_le h.1.nn hm⟩, h.2.1.atNn hm, h.2.2.atNn hm⟩
theorem Z.newN {t : T} {nu b e : Int} (h : Z st [] t) : Z (st.newN nu b e) [] t := by
  have h1 : Z (st.atNn (st.nn + 1)) [] t := ⟨h.rc, h.rt.atNn (Nat.le_succ _), h.nd⟩
  refine h1.congr rfl rfl fun j hj => ?_
  have hne : j ≠ st.nn := by
    rcases hj with hj | hj
    · simp [cids, lefts, rights] at hj
    · exact Nat.ne_of_lt (h.rt.lt j hj)
  exact ⟨upd_ne _ _ _ hne, upd_ne _ _ _ hne, upd_ne _ _ _ hne, upd_ne _ _ _ hne, upd_ne _ _ _ hne, upd_ne _ _ _ hne, upd_ne _ _ _ hne, upd_ne _ _ _ hne⟩
theorem Z.setP {t : T} {k : C} {ps : List (Int × V)} (h : Z st k t) : Z (st.setP ps) k t := h.congr rfl rfl fun j _ => ⟨rfl, rfl, rfl, rfl, rfl, rfl, rfl, rfl⟩
theorem putP_new {ks : List Kt} {i : Nat} {b e : Int} (h : ∀ k ∈ ks, k.1 < i) : putP (plc ks) i (.tup [.int b, .int e]) = plc (ks ++ [(i, b, e)]) := by
  unfold putP
  rw [if_neg]
  · simp [plc, kv]
  · rw [List.any_eq_true]
    rintro ⟨p, hp, e⟩
    obtain ⟨k, hk, rfl⟩ := List.mem_map.mp hp
    have h1 := h k hk
    have h2 : (k.1 : Int) = (i : Int) := of_decide_eq_true e
    omega
noncomputable def iBody : Option Stmt → List Stmt
  | some (.If _ b _ _) => b
  | _ => []
noncomputable def insB : List Stmt := iBody (bodyOf (stmtAt 28))[2]?
noncomputable def elif3 : List Stmt := oBody (bodyOf (stmtAt 28))[2]?
noncomputable def dropB : List Stmt := iBody elif3[0]?
noncomputable def elif4 : List Stmt := oBody elif3[0]?
noncomputable def allB : List Stmt := iBody elif4[0]?
noncomputable def partB : List Stmt := oBody elif4[0]?

theorem ins_B {t : T} {ks : List Kt} {n N : Nat} {v1 v2 : V} {Q : V → St → Prop} {Qf : FV → Env0 → St → Prop} (wk : W.Ok) (nc : NodeCls W) (ok : c.Ok W 6) (hc : c.cs = scopeOf (stmtAt 28)) (H1 : Fn W 0 "_law_dip" dipS) (H2 : Fn W 4 "put_node" putS) (bl : nsIn W.K mainGlobals "len" = some none)
  (h : LS st t ks n) (hn : n ≤ 2 ^ 49) (hN : st.nn ≤ 50) (hQ : ∀ ρ' st' t' ks', AS st' t' ks' (n + 2) → st'.nn ≤ st.nn + 1 → Qf .next ρ' st') :
  TriS W c insB [("pot", .list 0), ("tree", .tree), ("nodes", .list 1), ("places", .dict), ("way", v1), ("numbers", v2)] st Qf := by
  refine TriS_cons ?_
  walk_at "ovs"
  refine dip_i h (by omega) (by decide) fun s1 lo h1 n1 _ _ _ => ?_
  refine TriS_cons ?_
  refine TriX_swap (names := ["number", "end"]) ok (by rw [hc]; decide) (by rw [env_of hc]; rfl) (by rw [env_of hc]; rfl) ?_
  walk_at "ovs"
  obtain ⟨P1, hL1, hP1⟩ := h1.as.ls
  have g1 : s1.lists[1]? = some (ndv (List.range s1.nn)) := by rw [hL1]; rfl
  refine ⟨s1.nn, .inl ⟨_, g1, by simp [ndv]⟩, by omega, ?_⟩
  walk_at "ovs"
  refine dip_i h1 (by omega) (by decide) fun s2 r h2 n2 _ r0 _ => ?_
  obtain ⟨P2, hL2, hP2⟩ := h2.as.ls
  have g2 : s2.lists[1]? = some (ndv (List.range s2.nn)) := by rw [hL2]; rfl
  refine binV_Add (TriEs_nil ⟨by simp, _, rfl, rfl, ?_⟩)
  rw [← n2]
  refine TriS_cons ?_
  refine TriX_expr (by rfl) ?_ (by rw [env_of hc]; rfl)
  refine TriE_append (by rfl) (by rfl) ?_
  walk_at "ovs"
  refine ⟨1, _, rfl, g2, ?_⟩
  refine TriE_new wk nc (ok.le (by decide)) (by walk_at "ov side") (by rfl) (by rfl) ?_
  walk_at "ovs"
  refine ⟨_, _, _, _, _, rfl, ?_⟩
  refine ⟨1, _, rfl, g2, rfl, by simp [ndv]; omega, ?_⟩
  have en1 : ndv (List.range s2.nn) ++ [V.node s2.nn] = ndv (List.range (s2.nn + 1)) := by simp [ndv, List.range_succ]
  rw [en1]
  have hks : ∀ k ∈ ks, k.1 < s2.nn := fun k hk => (h2.lt k hk).1
  have hpl3 : ((s2.newN (s2.nn : Int) lo (lo + r)).setL 1 (ndv (List.range (s2.nn + 1)))).places = plc ks := h2.as.pl
  have hlk : ks.length ≤ 60 := by have := h2.len; omega
  refine TriS_cons ?_
  walk_at "ovs"
  refine ⟨_, rfl, rfl, by rw [hpl3]; simp [plc]; omega, ?_⟩
  rw [hpl3, putP_new hks]
  obtain ⟨s4, hs4⟩ : ∃ s4, s4 = ((s2.newN (s2.nn : Int) lo (lo + r)).setL 1 (ndv (List.range (s2.nn + 1)))).setP (plc (ks ++ [(s2.nn, lo, lo + r)])) := ⟨_, rfl⟩
  rw [← hs4]
  have z4 : Z s4 [] t := by rw [hs4]; exact (h2.as.z.newN).wl.setP
  have o4 : ∀ j, s4.off j = 0 := fun j => by
    rw [hs4]
    show upd s2.off s2.nn 0 j = 0
    unfold upd; split
    · rfl
    · exact h2.zero j
  have L4 : s4.lists = [P2, ndv (List.range (s2.nn + 1))] := by
    rw [hs4]
    show s2.lists.set 1 _ = _
    rw [hL2]; rfl
  have f4 : s4.nn = s2.nn + 1 ∧ s4.cnt = s2.cnt ∧ s4.places = plc (ks ++ [(s2.nn, lo, lo + r)]) ∧ s4.num s2.nn = (s2.nn : Int) ∧ s4.bg s2.nn = lo ∧ s4.en s2.nn = lo + r := by
    rw [hs4]; exact ⟨rfl, rfl, rfl, upd_self .., upd_self .., upd_self ..⟩
  obtain ⟨fn, fc, fp, fnum, fbg, fen⟩ := f4
  have g4 : s4.lists[1]? = some (ndv (List.range (s2.nn + 1))) := by rw [L4]; rfl
  have hx : s2.nn ∉ t.ids := fun hm => Nat.lt_irrefl _ (h2.as.z.rt.lt _ hm)
  have hgd := h2.as.good
  have hso := h2.as.so
  have hpm := h2.as.pm
  rw [h2.sh] at hgd hso hpm
  refine TriS_cons ?_
  walk_at "ovs"
  refine ⟨_, rfl, _, .node s2.nn, g4, by omega, by omega, by simp [ndv], ?_⟩
  walk_at "ovs"
  refine ⟨s2.nn, t, rfl, z4, o4, hgd, hso, by omega, hx, fnum, fun st' w A B w1 w2 w3 w4 w5 w6 w7 => ?_⟩
  walk_at "ovs"
  refine hQ _ st' w (ks ++ [(s2.nn, lo, lo + r)]) (LS.of w1 w7.off w2 w5 (w7.places.trans fp) ?_ ?_ ⟨P2, ?_, hP2⟩).as (by rw [w7.nn, fn]; omega)
  · rw [w4, fbg, fen]
    rw [w3] at hpm
    refine (hpm.append_right _).trans ?_
    rw [List.append_assoc]
    exact List.Perm.append_left _ (List.perm_append_comm.trans (by simp))
  · rw [w6, fc, h2.as.cnt]; simp
  · rw [w7.lists, L4, w7.nn, fn]
theorem getP_at {ks : List Kt} {k : Kt} (hd : (ks.map (·.1)).Nodup) (h : k ∈ ks) : getP (plc ks) (k.1 : Int) = some (.tup [.int k.2.1, .int k.2.2]) := find_plc hd h
theorem delP_plc {ks : List Kt} {i : Nat} : delP (plc ks) (i : Int) = plc (ks.filter fun k => decide (k.1 ≠ i)) := by
  unfold delP plc
  rw [List.filter_map]
  congr 1
  refine List.filter_congr fun k _ => ?_
  show decide ((k.1 : Int) ≠ (i : Int)) = decide (k.1 ≠ i)
  by_cases e : k.1 = i
  · subst e; simp
  · have : ¬ (k.1 : Int) = i := by omega
    simp [e, this]
theorem filter_cut {A B : List Kt} {x : Nat} {b e : Int} (hn : ((A ++ (x, b, e) :: B).map (·.1)).Nodup) : (A ++ (x, b, e) :: B).filter (fun k => decide (k.1 ≠ x)) = A ++ B := by
  simp only [List.map_append, List.map_cons, List.nodup_append, List.nodup_cons] at hn
  have ha : ∀ k ∈ A, k.1 ≠ x := fun k hk z => hn.2.2 k.1 (List.mem_map_of_mem hk) x (.head _) z
  have hb : ∀ k ∈ B, k.1 ≠ x := fun k hk z => hn.2.1.1 (z ▸ List.mem_map_of_mem (f := (·.1)) hk)
  rw [List.filter_append, List.filter_cons_of_neg (by simp), List.filter_eq_self.mpr fun k hk => by simpa using ha k hk, List.filter_eq_self.mpr fun k hk => by simpa using hb k hk]

theorem drop_B {t : T} {ks : List Kt} {n : Nat} {v1 : V} {ms : List Int} {Qf : FV → Env0 → St → Prop} (wk : W.Ok) (ok : c.Ok W 6) (hc : c.cs = scopeOf (stmtAt 28)) (H1 : Fn W 0 "_law_dip" dipS) (H2 : Fn W 5 "drop_node" dropS) (bl : nsIn W.K mainGlobals "len" = some none)
  (h : LS st t ks n) (hn : n ≤ 2 ^ 49) (hN : st.nn ≤ 50) (hms : ms.Perm ((plc ks).map (·.1))) (hne : ms ≠ []) (hQ : ∀ ρ' st' t' ks', AS st' t' ks' (n + 2) → st'.nn ≤ st.nn + 1 → Qf .next ρ' st') :
  TriS W c dropB [("pot", .list 0), ("tree", .tree), ("nodes", .list 1), ("places", .dict), ("way", v1), ("numbers", .fl (ms.map .int))] st Qf := by
  have hlk : ks.length ≤ 50 := by have := h.len; omega
  have hml : ms.length = ks.length := by rw [hms.length_eq]; simp [plc]
  have hpos : 0 < ms.length := List.length_pos_iff.mpr hne
  refine TriS_cons ?_
  walk_at "ovs"
  refine ⟨ms.length, .inl ⟨_, rfl, by simp⟩, by omega, ?_⟩
  walk_at "ovs"
  refine dip_i h (by omega) (by omega) fun s1 r h1 n1 _ r0 r1 => ?_
  obtain ⟨m, hm⟩ : ∃ m, ms[r.toNat]? = some m := ⟨ms[r.toNat]'(by omega), by simp⟩
  refine ⟨_, rfl, .int m, r0, by omega, by simp [hm], ?_⟩
  obtain ⟨k, hk, rfl⟩ := int_key hms (List.mem_of_getElem? hm)
  obtain ⟨P1, hL1, hP1⟩ := h1.as.ls
  have g1 : s1.lists[1]? = some (ndv (List.range s1.nn)) := by rw [hL1]; rfl
  obtain ⟨hlt, hids⟩ := h1.lt k hk
  have hgd := h1.as.good
  have hso := h1.as.so
  have hpm := h1.as.pm
  rw [h1.sh] at hgd hso hpm
  have hnd := h1.nd
  refine TriS_cons ?_
  walk_at "ovs"
  refine ⟨_, rfl, _, .node k.1, g1, by omega, by omega, by simp [ndv, hlt], ?_⟩
  walk_at "ovs"
  refine ⟨k.1, t, rfl, h1.as.z, h1.zero, hgd, hids, by omega, fun st' w A B b e w1 w2 w3 w4 w5 w6 => ?_⟩
  have hpl : st'.places = plc ks := w6.places.trans h1.as.pl
  have htn : ((A ++ (k.1, b, e) :: B).map (·.1)).Nodup := by
    rw [← w3]; exact (dj_iff.mp h1.as.z.nd).ht
  have hpm2 : (ks.filter fun x => decide (x.1 ≠ k.1)).Perm (A ++ B) := by
    have := hpm.filter fun x : Kt => decide (x.1 ≠ k.1)
    rw [w3, filter_cut htn] at this
    exact this
  refine TriS_cons (TriX_expr (by rfl) ?_ (by rw [env_of hc]; rfl))
  refine TriE_dpop (by rfl) (by rfl) ?_
  walk_at "ovs"
  refine ⟨rfl, ?_⟩
  walk_at "ovs"
  refine ⟨_, _, rfl, by rw [hpl]; exact getP_at hnd hk, by rw [hpl]; simp [plc]; omega, ?_⟩
  rw [hpl, delP_plc]
  refine TriS_nil ?_
  have hls : LS (st'.setP (plc (ks.filter fun x => decide (x.1 ≠ k.1)))) w (ks.filter fun x => decide (x.1 ≠ k.1)) (n + 1) := by
    refine LS.of w1.setP w6.off w2 ?_ (by rfl) (w4 ▸ hpm2) ?_ ⟨P1, ?_, hP1⟩
    · rw [w4]
      rw [w3] at hso
      exact hso.sublist (List.Sublist.append_left (List.sublist_cons_self _ _) _)
    · show st'.cnt = _
      rw [w5, h1.as.cnt, hpm2.length_eq]
      have := hpm.length_eq
      rw [w3] at this
      simp at this ⊢
      omega
    · show st'.lists = _
      rw [w6.lists, hL1]
      show [P1, ndv (List.range s1.nn)] = [P1, ndv (List.range st'.nn)]
      rw [w6.nn]
  exact hQ _ _ w _ (hls.as.mono (by omega)) (by show st'.nn ≤ _; rw [w6.nn]; omega)

theorem all_B {t : T} {ks : List Kt} {n : Nat} {v1 : V} {ms : List Int} {Qf : FV → Env0 → St → Prop} (wk : W.Ok) (ok : c.Ok W 6) (hc : c.cs = scopeOf (stmtAt 28)) (H1 : Fn W 0 "_law_dip" dipS) (H2 : Fn W 0 "_law_shifted" shiftS)
  (h : LS st t ks n) (hn : n ≤ 2 ^ 49) (hN : st.nn ≤ 50) (hms : ms.Perm ((plc ks).map (·.1))) (hne : ms ≠ []) (hQ : ∀ ρ' st' t' ks', AS st' t' ks' (n + 1) → st'.nn ≤ st.nn + 1 → Qf .next ρ' st') :
  TriS W c allB [("pot", .list 0), ("tree", .tree), ("nodes", .list 1), ("places", .dict), ("way", v1), ("numbers", .fl (ms.map .int))] st Qf := by
  have hlk : ks.length ≤ 50 := by have := h.len; omega
  have hml : ms.length = ks.length := by rw [hms.length_eq]; simp [plc]
  have hpos : 0 < ms.length := List.length_pos_iff.mpr hne
  refine TriS_cons ?_
  walk_at "ovs"
  refine dip_i h (by omega) (by omega) fun s1 m h1 n1 e1 r0 r1 => ?_
  have hgd := h1.as.good
  have hso := h1.as.so
  have hpm := h1.as.pm
  rw [h1.sh] at hgd hso hpm
  have hnd := h1.nd
  obtain ⟨P1, hL1, hP1⟩ := h1.as.ls
  rcases t with _ | ⟨l, d, r⟩
  · have h0 : ks.length = 0 := hpm.length_eq
    omega
  have hroot : s1.root = some d.i := h1.as.z.rc
  have hoff : s1.off d.i = 0 := h1.zero _
  refine TriS_cons ?_
  walk_at "ovs"
  rw [hoff, Int.zero_add]
  have hns : (.fl (ms.map V.int) : V) = .fl (idv (ms.map Int.toNat)) := by
    unfold idv
    rw [List.map_map]
    congr 1
    refine List.map_congr_left fun i hi => ?_
    obtain ⟨k, hk, rfl⟩ := int_key hms hi
    show V.int (k.1 : Int) = V.int (((k.1 : Int).toNat : Nat) : Int)
    simp
  have hperm : (ms.map Int.toNat).Perm (T.node l d r).ids := by
    refine (hms.map Int.toNat).trans ?_
    rw [plc_fst, List.map_map]
    exact (hpm.map (·.1))
  rw [hns]
  have hp1 : (s1.sOff d.i m).places = plc ks := h1.as.pl
  refine ⟨ms.map Int.toNat, m, ks, rfl, hp1, hnd, hperm.nodup_iff.mpr (dj_iff.mp h1.as.z.nd).ht, fun i hi => ?_, by omega, ?_⟩
  · obtain ⟨k, hk, e⟩ := List.mem_map.mp (hperm.mem_iff.mp hi)
    exact List.mem_map.mpr ⟨k, hpm.mem_iff.mpr hk, e⟩
  refine TriS_nil ?_
  have ho1 : ∀ j, j ≠ d.i → (s1.sOff d.i m).off j = 0 := fun j hj => (upd_ne _ _ _ hj).trans (h1.zero j)
  have ho2 : (s1.sOff d.i m).off d.i = m := upd_self ..
  have hz : Z (s1.sOff d.i m) [] (.node l d r) := h1.as.z.congr rfl rfl fun j _ => ⟨rfl, rfl, rfl, rfl, rfl, rfl, rfl, rfl⟩
  have hkeys := sh_one (k := []) (O := (s1.sOff d.i m).off) (dj_iff.mp hz.nd) (rfl : (T.node l d r).top = some d.i) ho2 ho1 hperm
  have hkeys : (sh (s1.sOff d.i m).off 0 (.node l d r)).keys = (T.node l d r).keys.map (shk (ms.map Int.toNat) m) := hkeys
  refine hQ _ _ (.node l d r) (ks.map (shk (ms.map Int.toNat) m)) ⟨hz.setP, fun j hj => ho1 j fun e => hj (e ▸ mem_ids_node.mpr (.inr (.inl rfl))), ⟨sh_Lm.mpr ((LmO_top (dj_iff.mp hz.nd).ht rfl ho1).mpr hgd.lm), ?_, sh_red.trans hgd.red⟩, ?_, rfl, ?_, ?_, P1, hL1, hP1⟩ (by show s1.nn ≤ _; omega)
  · obtain ⟨K, hK⟩ := hgd.bh
    exact ⟨K, sh_BH.mpr hK⟩
  · show SK (sh (s1.sOff d.i m).off 0 (.node l d r)).keys
    rw [hkeys, map_shk_in fun x hx => hperm.mem_iff.mpr (List.mem_map_of_mem (f := (·.1)) hx)]
    exact SK_shift (A := []) hso r0
  · show (ks.map (shk (ms.map Int.toNat) m)).Perm (sh (s1.sOff d.i m).off 0 (.node l d r)).keys
    rw [hkeys]
    exact hpm.map _
  · show s1.cnt = _
    rw [h1.as.cnt]; simp
noncomputable def forB : Option Stmt → List Stmt
  | some (.For _ _ b _ _) => b
  | _ => []
noncomputable def ρP (v1 v2 : V) (m : Int) (i : Nat) : Env0 := [("pot", .list 0), ("tree", .tree), ("nodes", .list 1), ("places", .dict), ("way", v1), ("numbers", v2), ("many", .int m), ("node", .node i)]
noncomputable def ρPe (v1 v2 : V) (m : Int) (i : Nat) (v : V) : Env0 := [("pot", .list 0), ("tree", .tree), ("nodes", .list 1), ("places", .dict), ("way", v1), ("numbers", v2), ("many", .int m), ("node", .node i), ("each_turn", v)]
theorem part_rest {t : T} {ks : List Kt} {n : Nat} {v1 v2 : V} {m : Int} {k1 : C} {l r : T} {d : D} {Qf : FV → Env0 → St → Prop} {ρ0 : Env0} (wk : W.Ok) (ok : c.Ok W 6) (hc : c.cs = scopeOf (stmtAt 28)) (H2 : Fn W 0 "_law_shifted" shiftS) (H3 : Fn W 1 "hand_down_to" downToS) (H4 : Fn W 0 "_law_below" belowS) (H5 : Fn W 1 "renew_limits" renewS)
  (h : LS st t ks n) (hN : st.nn ≤ 50) (hm : 0 ≤ m) (ht : t = plug k1 (.node l d r)) (hk1 : stk k1 = []) (hρ : ρ0 = ρP v1 v2 m d.i ∨ ∃ v, ρ0 = ρPe v1 v2 m d.i v)
  (hQ : ∀ ρ' st' t' ks', AS st' t' ks' n → st'.nn ≤ st.nn + 1 → Qf .next ρ' st') : TriS W c (partB.drop 2) ρ0 st Qf := by
  subst ht
  have hlk : ks.length ≤ 50 := by have := h.len; omega
  have hgd := h.as.good
  have hso := h.as.so
  have hpm := h.as.pm
  rw [h.sh] at hgd hso hpm
  have hnd := h.nd
  have hz := h.zero
  have hZ : Z st k1 (.node l d r) := Z.all_iff.mpr h.as.z
  have hrt : st.rt d.i = r.top := hZ.at.rt
  have hn9 : st.nn ≤ 900 := by omega
  obtain ⟨P1, hL1, hP1⟩ := h.as.ls
  rcases r with _ | ⟨rl, rd, rr⟩
  · rcases hρ with rfl | ⟨v, rfl⟩
    all_goals
      try unfold ρP
      try unfold ρPe
      refine TriS_cons ?_
      walk_at "ovs"
      refine ⟨d.i, k1, .node l d .nil, rfl, hZ, rfl, hz, hn9, ?_⟩
      walk_at "ovs"
      rw [hrt]
      apply if_ndec <;> intro g1
      · exact absurd rfl g1
      walk_at "ovs"
      exact hQ _ st _ ks h.as (by omega)
  · have hrr : Z st (fr false d l :: k1) (.node rl rd rr) := Z.put_iff.mpr hZ
    have hrt' : st.rt d.i = some rd.i := hrt
    have djr := dj_iff.mp hrr.nd
    have hlr : (T.node rl rd rr).ids.length ≤ 900 := by
      have := hrr.len
      have h2 : (T.node rl rd rr).ids.length ≤ (keysAt (fr false d l :: k1) (.node rl rd rr)).length := by simp [keysAt, T.ids]; omega
      omega
    have main : ∀ (ns : List Nat) (s4 : St), ns.Perm (T.node rl rd rr).ids → s4 = (st.setP (plc (ks.map (shk ns m)))).sOff rd.i (0 + m) → 
        ∃ q, Z s4 (fr false d l :: k1) (.node rl rd rr) ∧ LmO s4.off (.node rl rd rr) ∧ LmOC s4.off (fr false d l :: k1) q ∧ (∀ f ∈ fr false d l :: k1, s4.off f.i = 0) ∧
          ∀ ρ' st' w, Z st' [] w → LmO s4.off w → er w = er (plug (fr false d l :: k1) (.node rl rd rr)) → Kp s4 st' → Qf .next ρ' st' := by
      intro ns s4 hns hs4
      subst hs4
      have ho2 : ((st.setP (plc (ks.map (shk ns m)))).sOff rd.i (0 + m)).off rd.i = m := (upd_self ..).trans (Int.zero_add m)
      have ho1 : ∀ j, j ≠ rd.i → ((st.setP (plc (ks.map (shk ns m)))).sOff rd.i (0 + m)).off j = 0 := fun j hj => (upd_ne _ _ _ hj).trans (hz j)
      have hrd : rd.i ∈ (T.node rl rd rr).ids := mem_ids_node.mpr (.inr (.inl rfl))
      have hoc : ∀ j ∈ cids (fr false d l :: k1), ((st.setP (plc (ks.map (shk ns m)))).sOff rd.i (0 + m)).off j = 0 := fun j hj => ho1 j fun e => djr.d _ hrd (e ▸ hj)
      have hZ4 : Z ((st.setP (plc (ks.map (shk ns m)))).sOff rd.i (0 + m)) (fr false d l :: k1) (.node rl rd rr) := hrr.congr rfl rfl fun j _ => ⟨rfl, rfl, rfl, rfl, rfl, rfl, rfl, rfl⟩
      have hpl : plug (fr false d l :: k1) (.node rl rd rr) = plug k1 (.node l d (.node rl rd rr)) := rfl
      obtain ⟨lmr, lmc⟩ := Lm_unplug (c := fr false d l :: k1) (t := .node rl rd rr) hgd.lm
      refine ⟨_, hZ4, (LmO_top djr.ht rfl ho1).mpr lmr, (LmOC_zero hoc).mpr lmc, fun f hf => ?_, fun ρ' st' w w1 w2 w3 w4 => ?_⟩
      · refine hoc f.i ?_
        obtain ⟨a, b, e⟩ := List.append_of_mem hf
        rw [e]; exact cids_app
      · have hoff : st'.off = ((st.setP (plc (ks.map (shk ns m)))).sOff rd.i (0 + m)).off := w4.off
        have hkw : (sh st'.off 0 w).keys = (plug (fr false d l :: k1) (.node rl rd rr)).keys.map (shk ns m) := by
          rw [er_sh_keys w3, hoff]
          exact sh_one djr rfl ho2 ho1 hns
        have hwk : w.keys = (plug (fr false d l :: k1) (.node rl rd rr)).keys := by rw [← er_keys, w3, er_keys]
        have hns2 : ns.Nodup := hns.nodup_iff.mpr djr.ht
        refine hQ ρ' st' w (ks.map (shk ns m)) ⟨w1, fun j hj => ?_, ⟨sh_Lm.mpr (by rw [hoff]; exact w2), ?_, ?_⟩, ?_, w4.places, ?_, ?_, P1, ?_, hP1⟩ (by rw [w4.nn]; show st.nn ≤ _; omega)
        · rw [hoff]
          refine ho1 j fun e => hj ?_
          have : j ∈ (plug (fr false d l :: k1) (T.node rl rd rr)).ids := by
            rw [e]
            unfold T.ids
            rw [plug_keys]
            simp only [keysAt, List.map_append, List.mem_append]
            exact .inl (.inr hrd)
          unfold T.ids at this ⊢
          rw [hwk]; exact this
        · obtain ⟨K, hK⟩ := hgd.bh
          exact ⟨K, sh_BH.mpr (er_BH.mp (by rw [w3]; exact er_BH.mpr hK))⟩
        · rw [sh_red, ← er_red, w3, er_red]; exact hgd.red
        · rw [hkw, plug_keys]
          have hso2 : SK (lefts (fr false d l :: k1) ++ (T.node rl rd rr).keys ++ rights (fr false d l :: k1)) := by
            have := hso
            rw [← hpl, plug_keys] at this
            exact this
          have hr0 : rights (fr false d l :: k1) = [] := (stk_nil (c := fr false d l :: k1) hk1).1
          unfold keysAt
          rw [hr0, List.append_nil] at hso2 ⊢
          rw [List.map_append, map_shk_out fun x hx hxm => djr.d _ (hns.mem_iff.mp hxm) (by simp only [cids, List.map_append, List.mem_append]; exact .inl (List.mem_map_of_mem hx)),
            map_shk_in fun x hx => hns.mem_iff.mpr (List.mem_map_of_mem (f := (·.1)) hx)]
          exact SK_shift hso2 hm
        · rw [hkw]
          exact hpm.map _
        · rw [w4.cnt]
          show st.cnt = _
          rw [h.as.cnt]; simp
        · rw [w4.lists, w4.nn]
          exact hL1
    rcases hρ with rfl | ⟨v, rfl⟩
    all_goals
      try unfold ρP
      try unfold ρPe
      refine TriS_cons ?_
      walk_at "ovs"
      refine ⟨d.i, k1, .node l d (.node rl rd rr), rfl, hZ, rfl, hz, hn9, ?_⟩
      walk_at "ovs"
      rw [hrt']
      apply if_ndec <;> intro g1
      rotate_left
      · cases g1
      walk_at "ovs"
      rw [hrt']
      refine ⟨some d.i, .node rl rd rr, rfl, hrr.rt, hlr, fun ns hns => ?_⟩
      walk_at "ovs"
      refine ⟨ns, m, ks, rfl, h.as.pl, hnd, hns.nodup_iff.mpr djr.ht, fun i hi => ?_, by omega, ?_⟩
      · have : i ∈ (plug k1 (.node l d (.node rl rd rr))).ids := by
          unfold T.ids
          rw [plug_keys]
          simp only [keysAt, T.keys, List.map_append, List.mem_append, List.map_cons, List.mem_cons]
          have := hns.mem_iff.mp hi
          unfold T.ids at this
          simp only [T.keys, List.map_append, List.mem_append, List.map_cons, List.mem_cons] at this
          exact .inl (.inr (.inr (.inr this)))
        obtain ⟨x, hx, e⟩ := List.mem_map.mp this
        exact List.mem_map.mpr ⟨x, hpm.mem_iff.mpr hx, e⟩
      have hrt3 : (st.setP (plc (ks.map (shk ns m)))).rt d.i = some rd.i := hrt'
      have hof3 : (st.setP (plc (ks.map (shk ns m)))).off rd.i = 0 := hz _
      walk_at "ovs"
      rw [hof3]
      obtain ⟨q, m1, m2, m3, m4, m5⟩ := main ns _ hns rfl
      refine ⟨false, d, l, k1, .node rl rd rr, q, rfl, m1, m2, m3, m4, fun st' w w1 w2 w3 w4 => ?_⟩
      walk_at "ovs"
      exact m5 _ st' w w1 w2 w3 w4
theorem spine_loop {t : T} {v1 v2 : V} {m : Int} {Qg : FV → Env0 → St → Prop} (wk : W.Ok) (ok : c.Ok W 6) (hc : c.cs = scopeOf (stmtAt 28)) (h : Z st [] t) : ∀ (xs : List V) (k1 : C) (l : T) (d : D) (r : T) (ρ0 : Env0), t = plug k1 (.node l d r) → stk k1 = [] → (ρ0 = ρP v1 v2 m d.i ∨ ∃ v, ρ0 = ρPe v1 v2 m d.i v) →
    (∀ k1 l d r ρ0, t = plug k1 (.node l d r) → stk k1 = [] → (ρ0 = ρP v1 v2 m d.i ∨ ∃ v, ρ0 = ρPe v1 v2 m d.i v) → Qg .next ρ0 st) → ForT W c "each_turn" (forB partB[1]?) xs ρ0 st Qg := by
  intro xs
  induction xs with
  | nil => intro k1 l d r ρ0 h1 h2 h3 hQ; exact forT_nil (hQ k1 l d r ρ0 h1 h2 h3)
  | cons x xs ih =>
    intro k1 l d r ρ0 h1 h2 h3 hQ
    have hZ : Z st k1 (.node l d r) := Z.all_iff.mpr (h1 ▸ h)
    have hrt : st.rt d.i = r.top := hZ.at.rt
    refine forT_cons ?_
    rcases h3 with rfl | ⟨v, rfl⟩
    all_goals
      try unfold ρP
      try unfold ρPe
      refine TriS_cons ?_
      walk_at "ovs"
      rw [hrt]
      rcases r with _ | ⟨rl, rd, rr⟩
      · apply if_dec <;> intro g1
        · walk_at "ovs"
          exact ih k1 l d .nil _ h1 h2 (.inr ⟨x, rfl⟩) hQ
        · exact absurd rfl g1
      · apply if_dec <;> intro g1
        · cases g1
        · have hrt' : st.rt d.i = some rd.i := hrt
          walk_at "ovs"
          rw [hrt', ovS]
          exact ih (.R l d :: k1) rl rd rr _ h1 h2 (.inr ⟨x, rfl⟩) hQ
theorem part_B {t : T} {ks : List Kt} {n : Nat} {v1 v2 : V} {Qf : FV → Env0 → St → Prop} (wk : W.Ok) (ok : c.Ok W 6) (hc : c.cs = scopeOf (stmtAt 28)) (H1 : Fn W 0 "_law_dip" dipS) (H2 : Fn W 0 "_law_shifted" shiftS) (H3 : Fn W 1 "hand_down_to" downToS) (H4 : Fn W 0 "_law_below" belowS) (H5 : Fn W 1 "renew_limits" renewS)
  (bR : nsIn W.K mainGlobals "range" = some none) (h : LS st t ks n) (hn : n ≤ 2 ^ 49) (hN : st.nn ≤ 50) (hne : t ≠ .nil) (hQ : ∀ ρ' st' t' ks', AS st' t' ks' (n + 2) → st'.nn ≤ st.nn + 1 → Qf .next ρ' st') :
  TriS W c partB [("pot", .list 0), ("tree", .tree), ("nodes", .list 1), ("places", .dict), ("way", v1), ("numbers", v2)] st Qf := by
  rcases t with _ | ⟨l, d, r⟩
  · exact absurd rfl hne
  have hroot : st.root = some d.i := h.as.z.rc
  refine TriS_cons ?_
  refine TriX_swap (names := ["node", "many"]) ok (by rw [hc]; decide) (by rw [env_of hc]; rfl) (by rw [env_of hc]; rfl) ?_
  walk_at "ovs"
  refine dip_i h (by omega) (by decide) fun s1 m h1 n1 _ r0 _ => ?_
  refine TriEs_nil ⟨by simp, _, rfl, rfl, ?_⟩
  rw [hroot]
  refine TriS_cons ?_
  refine TriX_forRange ok (by walk_at "ov side") (by walk_at "ov side") bR (by rfl) (by rfl) ?_
  walk_at "ovs"
  refine dip_i h1 (by omega) (by decide) fun s2 k h2 n2 _ k0 k3 => ?_
  refine ⟨k.toNat, by congr 1; omega, by omega, ?_⟩
  refine spine_loop wk ok hc h2.as.z (rangeV k.toNat) [] l d r _ rfl rfl (.inl rfl) fun k1 l' d' r' ρ0 e1 e2 e3 => ?_
  exact part_rest wk ok hc H2 H3 H4 H5 h2 (by omega) r0 e1 e2 e3 fun ρ' st' t' ks' a b => hQ ρ' st' t' ks' a (by omega)

inductive doneS (xs : List V) (st : St) (Q : V → St → Prop) : Prop
  | mk : ∀ t ks n, (xs = [.list 0, .tree, .list 1, .dict]) → (LS st t ks n) → (n ≤ 2 ^ 48) → (st.nn ≤ 50) → (∀ st' t' ks', AS st' t' ks' (n + 3) → st'.nn ≤ st.nn + 1 → Q .none st') → doneS xs st Q
theorem done_body {t : T} {ks : List Kt} {n : Nat} {Q : V → St → Prop} (wk : W.Ok) (nc : NodeCls W) (ok : c.Ok W 6) (hc : c.cs = scopeOf (stmtAt 28)) (H1 : Fn W 0 "_law_dip" dipS) (H2 : Fn W 0 "_law_shifted" shiftS) (H3 : Fn W 1 "hand_down_to" downToS) (H4 : Fn W 0 "_law_below" belowS) (H5 : Fn W 1 "renew_limits" renewS)
  (H6 : Fn W 4 "put_node" putS) (H7 : Fn W 5 "drop_node" dropS) (bR : nsIn W.K mainGlobals "range" = some none) (bL : nsIn W.K mainGlobals "len" = some none) (bS : nsIn W.K mainGlobals "sorted" = some none)
  (h : LS st t ks n) (hn : n ≤ 2 ^ 48) (hN : st.nn ≤ 50) (hQ : ∀ st' t' ks', AS st' t' ks' (n + 3) → st'.nn ≤ st.nn + 1 → Q .none st') :
  TriS W c (bodyOf (stmtAt 28)) [("pot", .list 0), ("tree", .tree), ("nodes", .list 1), ("places", .dict)] st (LeaveQ st.lists.length Q) := by
  obtain ⟨P, hL, hP⟩ := h.as.ls
  refine TriS_cons ?_
  walk_at "ovs"
  refine dip_i h (by omega) (by decide) fun s1 w h1 n1 _ w0 w1 => ?_
  have hlk : ks.length ≤ 50 := by have := h1.len; omega
  have fin : ∀ (f : FV) (ρ' : Env0) (st' : St) t' ks', AS st' t' ks' (n + 3) → st'.nn ≤ s1.nn + 1 → TriS W c [] ρ' st' (LeaveQ st.lists.length Q) := by
    intro f ρ' st' t' ks' a b
    refine TriS_nil (leave_next ?_ (hQ st' t' ks' a (by omega)))
    obtain ⟨P', hL', _⟩ := a.ls
    rw [hL', hL]; rfl
  refine TriS_cons ?_
  refine TriX_name ok (by walk_at "ov side") (by rfl) ?_
  refine TriE_sorted ok (by walk_at "ov side") bS (by rfl) ?_
  walk_at "ovs"
  refine .inr ⟨rfl, by rw [h1.as.pl]; simp [plc]; omega, fun ms hms hmo => ?_⟩
  rw [h1.as.pl] at hms
  refine TriS_cons (TriX_if (TriT_or (TriT_cmp rfl ?_)))
  have fin1 : ∀ ρ' st' t' ks', AS st' t' ks' (n + 1 + 2) → st'.nn ≤ s1.nn + 1 → TriS W c [] ρ' st' (LeaveQ st.lists.length Q) := fun ρ' st' t' ks' a b => fin .next ρ' st' t' ks' a b
  have fin2 : ∀ ρ' st' t' ks', AS st' t' ks' (n + 1 + 1) → st'.nn ≤ s1.nn + 1 → TriS W c [] ρ' st' (LeaveQ st.lists.length Q) := fun ρ' st' t' ks' a b => fin .next ρ' st' t' ks' (a.mono (by omega)) b
  walk_at "ovs"
  apply if_dec <;> intro g1
  · exact if_t (ins_B wk nc ok hc H1 H6 bL (N := 0) (Q := Q) h1 (by omega) (by omega) fin1)
  refine TriT_or1 (TriT_lcmp ok rfl ?_)
  walk_at "ovs"
  refine TriE_listF (TriEs_nil ⟨by simp, ms.map V.int, [], rfl, rfl, .inr (.inl ⟨rfl, ms, [], rfl, rfl, ⟨_, rfl, ?_⟩⟩)⟩)
  apply if_dec <;> intro g2
  · exact ins_B wk nc ok hc H1 H6 bL (N := 0) (Q := Q) h1 (by omega) (by omega) fin1
  have htn : t ≠ .nil := fun e => by
    have hpm := h1.as.pm
    rw [h1.sh, e] at hpm
    have h0 : ks.length = 0 := hpm.length_eq
    have h3 := hms.length_eq
    rw [plc, List.length_map, List.length_map, h0] at h3
    exact g2 (List.length_eq_zero_iff.mp h3)
  refine TriS_cons (TriX_if (TriT_cmp rfl ?_))
  walk_at "ovs"
  apply if_dec <;> intro g3
  · exact drop_B wk ok hc H1 H7 bL h1 (by omega) (by omega) hms g2 fun ρ' st' t' ks' a b => TriS_nil (fin1 ρ' st' t' ks' a b)
  refine TriS_cons (TriX_if (TriT_cmp rfl ?_))
  walk_at "ovs"
  apply if_dec <;> intro g4
  · exact all_B wk ok hc H1 H2 h1 (by omega) (by omega) hms g2 fun ρ' st' t' ks' a b => TriS_nil (TriS_nil (fin2 ρ' st' t' ks' a b))
  · exact part_B wk ok hc H1 H2 H3 H4 H5 bR h1 (by omega) (by omega) htn fun ρ' st' t' ks' a b => TriS_nil (TriS_nil (fin1 ρ' st' t' ks' a b))
theorem fn_done (wk : W.Ok) (nc : NodeCls W) (D : Defd W "_law_done" 28) (H1 : Fn W 0 "_law_dip" dipS) (H2 : Fn W 0 "_law_shifted" shiftS) (H3 : Fn W 1 "hand_down_to" downToS) (H4 : Fn W 0 "_law_below" belowS) (H5 : Fn W 1 "renew_limits" renewS)
  (H6 : Fn W 4 "put_node" putS) (H7 : Fn W 5 "drop_node" dropS) (bR : nsIn W.K mainGlobals "range" = some none) (bL : nsIn W.K mainGlobals "len" = some none) (bS : nsIn W.K mainGlobals "sorted" = some none) : Fn W 6 "_law_done" doneS :=
  Fn.mk D fun f hf => FnOK.of_body (ns := ["pot", "tree", "nodes", "places"]) hf (fun _ _ _ _ _ => args4 fun _ _ _ _ => rfl) (by decide) (by decide) (by rintro xs st Q ⟨t, ks, n, rfl, -⟩; rfl)
    (by rintro c st xs Q ok hc ⟨t, ks, n, rfl, h1, h2, h3, h4⟩; exact done_body wk nc ok hc H1 H2 H3 H4 H5 H6 H7 bR bL bS h1 h2 h3 h4) (by decide) rfl rfl rfl
end
end
-- == M40
section
open PySem PySem.W PySem.Calls PyProof.Rows
set_option linter.unusedVariables false
set_option linter.unusedSimpArgs false
set_option maxRecDepth 100000
set_option maxHeartbeats 4000000
section
variable {W : Wc} {c : Fc} {ρ : Env0} {st : St}

noncomputable def whole_i {v : V} : True := trivial
theorem AS.nd {t : T} {ks : List Kt} {n : Nat} (h : AS st t ks n) : (ks.map (·.1)).Nodup := by
  have h2 : ((sh st.off 0 t).keys.map (·.1)).Nodup := by
    have : (sh st.off 0 t).ids.Nodup := by rw [sh_ids]; exact (dj_iff.mp h.z.nd).ht
    exact this
  exact (h.pm.map (·.1)).nodup_iff.mpr h2
noncomputable def okRet (f : FV) (_ : Env0) (_ : St) : Prop := ∃ v, f = .ret v ∧ v = .bool true
theorem law_loop (wk : W.Ok) (ok : c.Ok W 7) (hc : c.cs = scopeOf (stmtAt 31)) (H1 : Fn W 6 "_law_done" doneS) (H2 : Fn W 1 "_law_is_whole" wholeS) (H3 : Fn W 2 "_law_is_found" foundS) : ∀ (xs : List V) (st : St) (t : T) (ks : List Kt) (n : Nat) (ρ0 : Env0),
    LS st t ks n → n + 5 * xs.length ≤ 2 ^ 40 → st.nn + xs.length ≤ 40 → (ρ0 = ([("pot", .list 0), ("tree", .tree), ("nodes", .list 1), ("places", .dict)] : Env0) ∨ ∃ v, ρ0 = ([("pot", .list 0), ("tree", .tree), ("nodes", .list 1), ("places", .dict), ("each_turn", v)] : Env0)) →
    ForT W c "each_turn" (forB (bodyOf (stmtAt 31))[1]?) xs ρ0 st fun f ρ' st' => match f with
      | .next => TriS W c ((bodyOf (stmtAt 31)).drop 2) ρ' st' okRet
      | f => okRet f ρ' st' := by
  intro xs
  induction xs with
  | nil =>
    intro st t ks n ρ0 h1 h2 h3 h4
    refine forT_nil ?_
    refine TriS_cons (TriX_ret (TriE_bool ⟨_, rfl, rfl⟩))
  | cons x xs ih =>
    intro st t ks n ρ0 h1 h2 h3 h4
    simp only [List.length_cons] at h2 h3
    refine forT_cons ?_
    rcases h4 with rfl | ⟨v, rfl⟩
    all_goals
      refine TriS_cons ?_
      walk_at "ovs"
      refine ⟨t, ks, n, rfl, h1, by omega, by omega, fun s1 t1 ks1 a1 b1 => ?_⟩
      obtain ⟨P, hL, hP⟩ := a1.ls
      have hn1 : s1.nn ≤ 60 := by omega
      walk_at "ovs"
      refine ⟨t1, ks1, rfl, a1.z, a1.good, a1.pl, a1.nd, fun k hk => a1.pm.mem_iff.mpr hk, by omega, ?_⟩
      walk_at "ovs"
      refine ⟨0, n + 3, P, t1, ks1, rfl, a1.z, a1.off, a1.good, a1.so, a1.pl, a1.pm, hn1, a1.cnt, by rw [hL]; rfl, hP, by omega, fun s2 P2 z2 o2 e1 e2 e3 e4 hP2 => ?_⟩
      walk_at "ovs"
      have hls : LS s2 (sh s1.off 0 t1) ks1 (n + 5) := LS.of z2 o2 a1.good a1.so (e3.trans a1.pl) a1.pm (e2.trans a1.cnt) ⟨P2, by rw [e4, hL, e1]; rfl, hP2⟩
      exact ih s2 _ ks1 (n + 5) _ hls (by omega) (by rw [e1]; omega) (.inr ⟨x, rfl⟩)
theorem law_rest {n : Nat} (wk : W.Ok) (ok : c.Ok W 7) (hc : c.cs = scopeOf (stmtAt 31)) (H0 : Fn W 0 "_law_dip" dipS) (H1 : Fn W 6 "_law_done" doneS) (H2 : Fn W 1 "_law_is_whole" wholeS) (H3 : Fn W 2 "_law_is_found" foundS) (bR : nsIn W.K mainGlobals "range" = some none)
  (h : LS st .nil [] n) (hn : n ≤ 2 ^ 30) (hN : st.nn = 0) : TriS W c ((bodyOf (stmtAt 31)).drop 1) [("pot", .list 0), ("tree", .tree), ("nodes", .list 1), ("places", .dict)] st okRet := by
  refine TriS_cons ?_
  refine TriX_forRange ok (by walk_at "ov side") (by walk_at "ov side") bR (by rfl) (by rfl) ?_
  walk_at "ovs"
  refine dip_i h (by omega) (by decide) fun s1 k h1 n1 _ k0 k9 => ?_
  refine binV_Add ?_
  refine ⟨(4 + k).toNat, by congr 1; omega, by omega, ?_⟩
  exact law_loop wk ok hc H1 H2 H3 (rangeV (4 + k).toNat) s1 .nil [] (n + 1) _ h1 (by simp [rangeV]; omega) (by simp [rangeV]; omega) (.inl rfl)
end
end
-- == M41
section
open PySem PySem.W PySem.Calls PyProof.Rows
set_option linter.unusedVariables false
set_option maxRecDepth 100000
set_option maxHeartbeats 4000000

noncomputable def st0 (P : List V) : St := { num := fun _ => 0, bg := fun _ => 0, en := fun _ => 0, lim := fun _ => 0, off := fun _ => 0, red := fun _ => false, lf := fun _ => none, rt := fun _ => none, pa := fun _ => none, nn := 0, root := none, cnt := 0, lists := [P, []], places := [] }
theorem st0_LS {P : List V} (h : PotL P 0) : LS (st0 P) .nil [] 0 :=
  LS.of ⟨rfl, trivial, List.nodup_nil⟩ (fun _ => rfl) ⟨trivial, ⟨0, rfl⟩, rfl⟩ List.Pairwise.nil rfl (List.Perm.refl _) rfl ⟨P, rfl, h⟩

theorem ne_at {l : List Addr} (h : l.Nodup) (i j : Nat) {a b : Addr} (hi : l[i]? = some a) (hj : l[j]? = some b) (hij : i ≠ j) : a ≠ b := fun e =>
  hij ((List.getElem?_inj (List.getElem?_eq_some_iff.mp hi).1 h).mp (hi.trans ((congrArg some e).trans hj.symm)))
theorem law_end {W : Wc} {c : Fc} {s : Shared} {m : Str → Option Value} (wk : W.Ok) (ok : c.Ok W 7) (hc : c.cs = scopeOf (stmtAt 31)) (H0 : Fn W 0 "_law_dip" dipS) (H1 : Fn W 6 "_law_done" doneS) (H2 : Fn W 1 "_law_is_whole" wholeS) (H3 : Fn W 2 "_law_is_found" foundS) (bR : nsIn W.K mainGlobals "range" = some none)
    {tp dc nl x d pot D1 D2 D3 D4 : Addr} {tpo o o1 o2 o4 : Obj} {es : List DictEntry} {ws : List Value} {ks : List Int} {sd : Int} {t1 t2 t3 : Tok} {cap : Nat}
    (F : Fr c.h₀ c.L s.heap m) (N : News c.h₀ c.L s.heap [(tp, tpo), (dc, o), (nl, listOf #[] 0), (x, instObj W.Ct d), (d, dictOf es 2), (pot, listOf #[.ref D3, .int 0 t1, .int sd t2] 0), (D1, o1), (D2, o2), (D3, listOf ws.toArray cap), (D4, o4)])
    (hnd : [tp, dc, nl, x, d, pot, D1, D2, D3, D4].Nodup) (hdc : (dc == sysModules) = false) (ho : o.IsDictOf (intKind W.prog W.w) []) (hlen : es.length ≤ 20)
    (hr : getL "root" es = some (some .none)) (hct : getL "count" es = some (some (.int 0 t3))) (hI : IntsAre ws ks) (hks : ks.length ≤ 63) (h0 : 0 ≤ sd) (h63 : sd < 2 ^ 63)
    (mp : m "pot" = some (.ref pot)) (mt : m "tree" = some (.ref x)) (mn : m "nodes" = some (.ref nl)) (md : m "places" = some (.ref dc)) :
    wpAny (model W.prog W.w) c.A (execs ((bodyOf (stmtAt 31)).drop 1) c.env) (fun f s' => ∃ m', f = .ret (.bool true) ∧ Fr c.h₀ c.L s'.heap m' ∧ Same s s') (fun _ _ => False) s := by
  have hP : PotL [.fl (ks.map V.int), .int 0, .int sd] 0 := ⟨ks, 0, sd, rfl, by omega, by omega, h0, h63, by omega⟩
  have T := law_rest wk ok hc H0 H1 H2 H3 bR (st0_LS hP) (by omega) rfl
  let μ : Mu := { nd := [], ls := [pot, nl], tr := (x, d), dc := dc }
  let own : Addr → Tag := fun b => if b = pot then .ls 0 else if b = nl then .ls 1 else if b = x then .ti else if b = d then .tx else if b = dc then .dc else .fz
  have op : own pot = .ls 0 := if_pos rfl
  have on : own nl = .ls 1 := (if_neg (ne_at hnd 2 5 rfl rfl (by decide))).trans (if_pos rfl)
  have ox : own x = .ti := (if_neg (ne_at hnd 3 5 rfl rfl (by decide))).trans ((if_neg ((ne_at hnd 3 2 rfl rfl (by decide)))).trans (if_pos rfl))
  have od : own d = .tx := (if_neg (ne_at hnd 4 5 rfl rfl (by decide))).trans ((if_neg ((ne_at hnd 4 2 rfl rfl (by decide)))).trans ((if_neg ((ne_at hnd 4 3 rfl rfl (by decide)))).trans (if_pos rfl)))
  have oc : own dc = .dc := (if_neg (ne_at hnd 1 5 rfl rfl (by decide))).trans ((if_neg (ne_at hnd 1 2 rfl rfl (by decide))).trans ((if_neg (ne_at hnd 1 3 rfl rfl (by decide))).trans ((if_neg (ne_at hnd 1 4 rfl rfl (by decide))).trans (if_pos rfl))))
  have o3 : own D3 = .fz := (if_neg ((ne_at hnd 8 5 rfl rfl (by decide)))).trans ((if_neg ((ne_at hnd 8 2 rfl rfl (by decide)))).trans ((if_neg ((ne_at hnd 8 3 rfl rfl (by decide)))).trans ((if_neg ((ne_at hnd 8 4 rfl rfl (by decide)))).trans (if_neg ((ne_at hnd 8 1 rfl rfl (by decide)))))))
  have m2 : (dc, o) ∈ [(tp, tpo), (dc, o), (nl, listOf #[] 0), (x, instObj W.Ct d), (d, dictOf es 2), (pot, listOf #[.ref D3, .int 0 t1, .int sd t2] 0), (D1, o1), (D2, o2), (D3, listOf ws.toArray cap), (D4, o4)] := .tail _ (.head _)
  have m4 : (x, instObj W.Ct d) ∈ [(tp, tpo), (dc, o), (nl, listOf #[] 0), (x, instObj W.Ct d), (d, dictOf es 2), (pot, listOf #[.ref D3, .int 0 t1, .int sd t2] 0), (D1, o1), (D2, o2), (D3, listOf ws.toArray cap), (D4, o4)] := .tail _ (.tail _ (.tail _ (.head _)))
  have m5 : (d, dictOf es 2) ∈ [(tp, tpo), (dc, o), (nl, listOf #[] 0), (x, instObj W.Ct d), (d, dictOf es 2), (pot, listOf #[.ref D3, .int 0 t1, .int sd t2] 0), (D1, o1), (D2, o2), (D3, listOf ws.toArray cap), (D4, o4)] := .tail _ (.tail _ (.tail _ (.tail _ (.head _))))
  have D : Led W.prog W.w W.Cn W.Ct (st0 [.fl (ks.map V.int), .int 0, .int sd]) μ own [(tp, tpo), (dc, o), (nl, listOf #[] 0), (x, instObj W.Ct d), (d, dictOf es 2), (pot, listOf #[.ref D3, .int 0 t1, .int sd t2] 0), (D1, o1), (D2, o2), (D3, listOf ws.toArray cap), (D4, o4)] := by
    refine ⟨?_, rfl, fun i p hp => by simp [μ] at hp, rfl, fun i a xs ha hx => ?_, ⟨ox, od, m4, es, 2, m5, hlen, fun f => ?_⟩, ⟨oc, hdc, o, [], m2, ho, .nil⟩, fun xs hx => ?_, fun p hp => by cases hp⟩
    · exact hnd
    · match i, ha, hx with
      | 0, ha, hx =>
        cases ha; cases hx
        exact ⟨op, [.ref D3, .int 0 t1, .int sd t2], 0, by simp, .cons (.fl (vs := ws) (n := cap) (by simp) o3 (VRs.ofInts hI)) (.cons (.int _ _) (.cons (.int _ _) .nil))⟩
      | 1, ha, hx =>
        cases ha; cases hx
        exact ⟨on, [], 0, by simp, .nil⟩
      | i + 2, ha, hx => simp [μ] at ha
    · cases f
      · exact ⟨.none, hr, .none⟩
      · exact ⟨.int 0 t3, hct, .int _ _⟩
    · have : nls ((ks.map V.int)) = true := by rw [nls_mem]; intro y hy; obtain ⟨k, -, rfl⟩ := List.mem_map.mp hy; rfl
      simp only [st0, List.mem_cons, List.not_mem_nil, or_false] at hx
      rcases hx with rfl | rfl
      · show (nls (ks.map V.int) && (true && (true && true))) = true
        rw [this]; rfl
      · rfl
  have hloc : ∀ y, c.cs.names.lookup y ≠ some .cell := fun y k => by
    rw [hc] at k
    have := mem_of_lookup k
    revert this
    have hh : ∀ p ∈ (scopeOf (stmtAt 31)).names, p.2 ≠ .cell := by decide
    exact fun q => hh _ q rfl
  have L : Loc c [("pot", .list 0), ("tree", .tree), ("nodes", .list 1), ("places", .dict)] m μ own [(tp, tpo), (dc, o), (nl, listOf #[] 0), (x, instObj W.Ct d), (d, dictOf es 2), (pot, listOf #[.ref D3, .int 0 t1, .int sd t2] 0), (D1, o1), (D2, o2), (D3, listOf ws.toArray cap), (D4, o4)] := by
    intro y v hv
    refine ⟨fun _ => ?_, fun k => absurd k (hloc y)⟩
    exact fa_cons (P := fun p : Str × V => ∃ v, m p.1 = some v ∧ VR μ own _ p.2 v) ⟨_, mp, .list rfl⟩ (fa_cons ⟨_, mt, .tree⟩ (fa_cons ⟨_, mn, .list rfl⟩ (fa_cons ⟨_, md, .dict⟩ fa_nil))) (y, v) (mem_of_lookup hv)
  refine wpAny_mono (T s μ own _ m ⟨F, N, D⟩ L) (fun f s' p => ?_) fun _ _ x => x
  obtain ⟨fv, ρ', st', μ', own', news', m', -, R', -, r, e, v, rfl, rfl⟩ := p
  cases r with
  | ret h => cases h; exact ⟨m', rfl, R'.F, e⟩
end
end Ov
namespace Ov
open PySem PySem.W PySem.Calls PyProof.Rows
set_option linter.unusedVariables false
set_option maxRecDepth 100000
set_option maxHeartbeats 4000000
noncomputable def theW (w : World) (mg mb : Str → Option Value) : Wc := { prog := PySem.Challenge.rw_pq0348_01.row.prog, w := w, K := hd.heap_1 w.params, Cn := 31, Ct := 52, p := vw, loose := looseW vw [], mg := mg, mb := mb }
section
variable {w : World} {mg mb : Str → Option Value}
theorem wk_ok : (theW w mg mb).Ok :=
  ⟨⟨by kernel_rfl, by kernel_rfl, by kernel_rfl, fun f => by cases f <;> kernel_rfl, fun f => by cases f <;> kernel_rfl, fun f => by cases f <;> kernel_rfl⟩,
   ⟨by kernel_rfl, by kernel_rfl, by kernel_rfl, fun f => by cases f <;> kernel_rfl, fun f => by cases f <;> kernel_rfl, fun f => by cases f <;> kernel_rfl⟩⟩
theorem node_cls : NodeCls (theW w mg mb) := ⟨⟨28, ⟨_, _, _, _, _, _, _, _, rfl, by kernel_rfl⟩, by kernel_rfl, by kernel_rfl⟩, by kernel_rfl, by kernel_rfl, by kernel_rfl, by kernel_rfl, by kernel_rfl⟩
theorem law_parts : Fn (theW w mg mb) 0 "_law_dip" dipS ∧ Fn (theW w mg mb) 6 "_law_done" doneS ∧ Fn (theW w mg mb) 1 "_law_is_whole" wholeS ∧ Fn (theW w mg mb) 2 "_law_is_found" foundS ∧ nsIn (theW w mg mb).K mainGlobals "range" = some none := by
  have wk : (theW w mg mb).Ok := wk_ok
  have nc : NodeCls (theW w mg mb) := node_cls
  have bM : nsIn (theW w mg mb).K mainGlobals "max" = some none := by kernel_rfl
  have bm : nsIn (theW w mg mb).K mainGlobals "min" = some none := by kernel_rfl
  have bL : nsIn (theW w mg mb).K mainGlobals "len" = some none := by kernel_rfl
  have bS : nsIn (theW w mg mb).K mainGlobals "sorted" = some none := by kernel_rfl
  have bR : nsIn (theW w mg mb).K mainGlobals "range" = some none := by kernel_rfl
  have hdn := fn_hand_down wk (⟨63, ⟨_, _, _, _, _, _, _, _, rfl, by kernel_rfl⟩, by kernel_rfl, by kernel_rfl⟩)
  have red := fn_is_red wk (⟨112, ⟨_, _, _, _, _, _, _, _, rfl, by kernel_rfl⟩, by kernel_rfl, by kernel_rfl⟩)
  have gre := fn_gre wk bM (⟨77, ⟨_, _, _, _, _, _, _, _, rfl, by kernel_rfl⟩, by kernel_rfl, by kernel_rfl⟩)
  have hng := fn_hang wk (⟨91, ⟨_, _, _, _, _, _, _, _, rfl, by kernel_rfl⟩, by kernel_rfl, by kernel_rfl⟩)
  have sib := fn_sibling wk (⟨168, ⟨_, _, _, _, _, _, _, _, rfl, by kernel_rfl⟩, by kernel_rfl, by kernel_rfl⟩)
  have tl := fn_turn_left wk (⟨98, ⟨_, _, _, _, _, _, _, _, rfl, by kernel_rfl⟩, by kernel_rfl, by kernel_rfl⟩) hdn hng gre
  have tr := fn_turn_right wk (⟨105, ⟨_, _, _, _, _, _, _, _, rfl, by kernel_rfl⟩, by kernel_rfl, by kernel_rfl⟩) hdn hng gre
  have tt := fn_turn_towards wk (⟨175, ⟨_, _, _, _, _, _, _, _, rfl, by kernel_rfl⟩, by kernel_rfl, by kernel_rfl⟩) tl tr
  have tn := fn_turned wk (⟨126, ⟨_, _, _, _, _, _, _, _, rfl, by kernel_rfl⟩, by kernel_rfl, by kernel_rfl⟩) tl tr
  have ci := fn_colIns wk (⟨119, ⟨_, _, _, _, _, _, _, _, rfl, by kernel_rfl⟩, by kernel_rfl, by kernel_rfl⟩) tl tr red tn
  have li := fn_light wk (⟨182, ⟨_, _, _, _, _, _, _, _, rfl, by kernel_rfl⟩, by kernel_rfl, by kernel_rfl⟩) tt red sib
  have cd := fn_colDrop wk (⟨161, ⟨_, _, _, _, _, _, _, _, rfl, by kernel_rfl⟩, by kernel_rfl, by kernel_rfl⟩) li red
  have pu := fn_put wk (⟨133, ⟨_, _, _, _, _, _, _, _, rfl, by kernel_rfl⟩, by kernel_rfl, by kernel_rfl⟩) hdn ci bM
  have dt := fn_downTo wk (⟨70, ⟨_, _, _, _, _, _, _, _, rfl, by kernel_rfl⟩, by kernel_rfl, by kernel_rfl⟩) hdn
  have fb := fn_first wk (⟨140, ⟨_, _, _, _, _, _, _, _, rfl, by kernel_rfl⟩, by kernel_rfl, by kernel_rfl⟩) hdn
  have tp := fn_take wk (⟨147, ⟨_, _, _, _, _, _, _, _, rfl, by kernel_rfl⟩, by kernel_rfl, by kernel_rfl⟩) hng gre
  have dr := fn_drop wk (⟨154, ⟨_, _, _, _, _, _, _, _, rfl, by kernel_rfl⟩, by kernel_rfl, by kernel_rfl⟩) gre cd dt fb hng tp
  have rn := fn_renew wk (⟨84, ⟨_, _, _, _, _, _, _, _, rfl, by kernel_rfl⟩, by kernel_rfl, by kernel_rfl⟩) gre
  have dp := fn_dip wk (⟨208, ⟨_, _, _, _, _, _, _, _, rfl, by kernel_rfl⟩, by kernel_rfl, by kernel_rfl⟩) bL
  have sh := fn_shift wk (⟨222, ⟨_, _, _, _, _, _, _, _, rfl, by kernel_rfl⟩, by kernel_rfl, by kernel_rfl⟩)
  have be := fn_below wk (⟨215, ⟨_, _, _, _, _, _, _, _, rfl, by kernel_rfl⟩, by kernel_rfl, by kernel_rfl⟩)
  have al := fn_all wk (⟨189, ⟨_, _, _, _, _, _, _, _, rfl, by kernel_rfl⟩, by kernel_rfl, by kernel_rfl⟩) hdn bL
  have bt := fn_btw wk (⟨196, ⟨_, _, _, _, _, _, _, _, rfl, by kernel_rfl⟩, by kernel_rfl, by kernel_rfl⟩) hdn bL
  have wh := fn_whole wk (⟨239, ⟨_, _, _, _, _, _, _, _, rfl, by kernel_rfl⟩, by kernel_rfl, by kernel_rfl⟩) be bM bm
  have fo := fn_found wk (⟨234, ⟨_, _, _, _, _, _, _, _, rfl, by kernel_rfl⟩, by kernel_rfl, by kernel_rfl⟩) al dp bt bS bL
  have dn := fn_done wk nc (⟨229, ⟨_, _, _, _, _, _, _, _, rfl, by kernel_rfl⟩, by kernel_rfl, by kernel_rfl⟩) dp sh dt be rn pu dr bR bL bS
  exact ⟨dp, dn, wh, fo, bR⟩
end
theorem law_fin {w : World} {mg mb : Str → Option Value} {mean : ExcName → Option Value} {h₀ base : Heap} {L fa : Addr} {cd : Value} {s : Shared} {m : Str → Option Value} (T : Top vw (looseW vw []) mean mg mb h₀) (X : (hd.heap_1 w.params).In h₀) (B : Below callerA base [] h₀)
    {tp dc nl x d pot D1 D2 D3 D4 : Addr} {tpo o o1 o2 o4 : Obj} {es : List DictEntry} {ws : List Value} {ks : List Int} {sd : Int} {t1 t2 t3 : Tok} {cap : Nat}
    (F : Fr h₀ L s.heap m) (N : News h₀ L s.heap [(tp, tpo), (dc, o), (nl, listOf #[] 0), (x, instObj 52 d), (d, dictOf es 2), (pot, listOf #[.ref D3, .int 0 t1, .int sd t2] 0), (D1, o1), (D2, o2), (D3, listOf ws.toArray cap), (D4, o4)])
    (hnd : [tp, dc, nl, x, d, pot, D1, D2, D3, D4].Nodup) (hdc : (dc == sysModules) = false) (ho : o.IsDictOf (intKind PySem.Challenge.rw_pq0348_01.row.prog w) []) (hlen : es.length ≤ 20)
    (hr : getL "root" es = some (some .none)) (hct : getL "count" es = some (some (.int 0 t3))) (hI : IntsAre ws ks) (hks : ks.length ≤ 63) (hsd : 0 ≤ sd ∧ sd < 2 ^ 63)
    (mp : m "pot" = some (.ref pot)) (mt : m "tree" = some (.ref x)) (mn : m "nodes" = some (.ref nl)) (md : m "places" = some (.ref dc)) :
    wpAny (model PySem.Challenge.rw_pq0348_01.row.prog w) (callerA.deeper (envOf "law" (scopeOf (stmtAt 31)) L fa cd)) (execs ((bodyOf (stmtAt 31)).drop 1) (envOf "law" (scopeOf (stmtAt 31)) L fa cd))
      (fun f s' => ∃ m', f = .ret (.bool true) ∧ Fr h₀ L s'.heap m' ∧ Same s s') (fun _ _ => False) s := by
  obtain ⟨P0, P1, P2, P3, PR⟩ := @law_parts w mg mb
  exact law_end (W := theW w mg mb) (c := { A := callerA.deeper (envOf "law" (scopeOf (stmtAt 31)) L fa cd), A₀ := callerA, base := base, h₀ := h₀, outer := [], cn := "law", cs := scopeOf (stmtAt 31), L := L, a := fa, ccd := cd, cl := [] }) wk_ok
    ⟨B, rfl, rfl, X, topRead_of T, rfl, Nat.le_of_ble_eq_true rfl, Nat.le_of_ble_eq_true rfl⟩ rfl P0 P1 P2 P3 PR F N hnd hdc ho hlen hr hct hI hks hsd.1 hsd.2 mp mt mn md
theorem cut_stmt {prog : Program} {w : World} {A : Around} {E : Value → Shared → Prop} {s : Shared} {env : PySem.Env} {x : PySem.Stmt} {r : List PySem.Stmt} {Q : Flow → Shared → Prop}
  (h : ∀ R : Flow → Shared → Prop, (∀ s', wpAny (model prog w) A (execs r env) Q E s' → R .next s') → wpAny (model prog w) A (exec x env) R E s) : wpAny (model prog w) A (execs (x :: r) env) Q E s :=
  wpAny_execs_cons (h _ fun _ h => h)
end Ov
namespace Ov
open PySem PySem.W PySem.Calls PyProof.Rows
theorem ne_nil' {x : Nat} : ∀ y ∈ ([] : List Nat), x ≠ y := fun _ h => nomatch h
theorem ne_cons {x a : Nat} {l : List Nat} (h : x ≠ a) (k : ∀ y ∈ l, x ≠ y) : ∀ y ∈ a :: l, x ≠ y
  | _, .head _ => h
  | y, .tail _ q => k y q
theorem nd10 {tp dc nl x d pot D1 D2 D3 D4 : Addr} {o1 o2 o3 o4 o5 o6 o7 o8 : Obj} (h1 : dc < tp ∧ nl < tp ∧ x < tp ∧ d < tp ∧ pot < tp ∧ D1 < tp ∧ D2 < tp ∧ D3 < tp ∧ D4 < tp)
    (h2 : ∀ p ∈ [(nl, o1), (x, o2), (d, o3), (pot, o4), (D1, o5), (D2, o6), (D3, o7), (D4, o8)], p.1 ≠ dc) (h3 : x < nl ∧ d < nl ∧ pot < nl ∧ D1 < nl ∧ D2 < nl ∧ D3 < nl ∧ D4 < nl)
    (h4 : pot < d ∧ D1 < d ∧ D2 < d ∧ D3 < d ∧ D4 < d) (h5 : d < x) (h6 : D1 < pot ∧ D2 < pot ∧ D3 < pot ∧ D4 < pot) (h7 : D2 ≠ D1 ∧ D3 ≠ D1 ∧ D4 ≠ D1) (h8 : D3 < D2 ∧ D4 < D2) (h9 : D4 < D3) : [tp, dc, nl, x, d, pot, D1, D2, D3, D4].Nodup := by
  obtain ⟨_, _, _, _, _, _, _, _, _⟩ := h1
  have _ := h2 _ (.head _)
  have _ := h2 _ (.tail _ (.head _))
  have _ := h2 _ (.tail _ (.tail _ (.head _)))
  have _ := h2 _ (.tail _ (.tail _ (.tail _ (.head _))))
  have _ := h2 _ (.tail _ (.tail _ (.tail _ (.tail _ (.head _)))))
  have _ := h2 _ (.tail _ (.tail _ (.tail _ (.tail _ (.tail _ (.head _))))))
  have _ := h2 _ (.tail _ (.tail _ (.tail _ (.tail _ (.tail _ (.tail _ (.head _)))))))
  have _ := h2 _ (.tail _ (.tail _ (.tail _ (.tail _ (.tail _ (.tail _ (.tail _ (.head _))))))))
  obtain ⟨_, _, _, _, _, _, _⟩ := h3
  obtain ⟨_, _, _, _, _⟩ := h4
  obtain ⟨_, _, _, _⟩ := h6
  obtain ⟨_, _, _⟩ := h7
  obtain ⟨_, _⟩ := h8
  refine .cons ?_ (.cons ?_ (.cons ?_ (.cons ?_ (.cons ?_ (.cons ?_ (.cons ?_ (.cons ?_ (.cons ?_ (.cons ?_ .nil))))))))) <;> repeat' (first | exact ne_nil' | refine ne_cons ?_ ?_ | exact Nat.ne_of_gt ‹_› | exact Ne.symm ‹_› | exact Nat.ne_of_gt (Nat.lt_trans ‹_› h5))
theorem sum_fmod : ∀ l : List Int, 0 ≤ (l.map fun k => k.fmod 1009).sum ∧ (l.map fun k => k.fmod 1009).sum ≤ 1008 * (l.length : Int)
  | [] => ⟨Int.le_refl _, Int.le_refl _⟩
  | k :: l => by
    obtain ⟨a, b⟩ := sum_fmod l
    have h1 : 0 ≤ k.fmod 1009 := Int.fmod_nonneg_of_pos _ (by decide)
    have h2 : k.fmod 1009 < 1009 := Int.fmod_lt_of_pos _ (by decide)
    simp only [List.map_cons, List.sum_cons, List.length_cons]
    constructor <;> omega
theorem sum_bd (ns : List Int) : 0 ≤ ((ns.take 63).map fun k => k.fmod 1009).sum + 3 ∧ ((ns.take 63).map fun k => k.fmod 1009).sum + 3 < 2 ^ 63 := by
  obtain ⟨a, b⟩ := sum_fmod (ns.take 63)
  have : (ns.take 63).length ≤ 63 := by rw [List.length_take]; omega
  constructor <;> omega
end Ov
end
local macro_rules | `(tactic| k_qdec) => `(tactic| decide +kernel)
set_option maxRecDepth 100000 in
set_option maxHeartbeats 8000000 in
theorem PySem.Challenge.cw_pq0348_01_holds : PySem.Challenge.rw_pq0348_01.Holds :=
  Ov.hd (by
  k_go0
  all_goals try k_fold
  rename PySem.World => w0
  rename PyProof.Rows.Top _ _ _ _ _ _ => T0
  rename PySem.W.Frag.In _ _ => X0
  rename PyProof.Rows.Below _ _ _ _ => K0
  refine Ov.cut_stmt fun R hR => ?_
  k_steps
  refine hR _ ?_
  refine PySem.wpAny_mono (Ov.law_fin T0 X0 K0 (by assumption) (by assumption) (Ov.nd10 (by assumption) (by assumption) (by assumption) (by assumption) (by assumption) (by assumption) (by assumption) (by assumption) (by assumption)) (by assumption) (by assumption) (Nat.le_of_ble_eq_true rfl) rfl rfl (by assumption) (by rw [List.length_take]; omega) (Ov.sum_bd _) rfl rfl rfl rfl) ?_ (fun _ _ z => z.elim)
  rintro f s' ⟨m', rfl, F', e⟩
  have e1 : s' = _ := e
  refine PySem.W.goodW_bool F' ((congrArg PySem.Shared.gens e1).trans (by assumption)) (PySem.W.raisesW_false ?_) ?_ ((congrArg PySem.Shared.os e1).trans rfl)
  · wrow_none_raised
  · wrow_post)
