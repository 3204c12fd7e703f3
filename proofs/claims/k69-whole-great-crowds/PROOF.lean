import PyProof.Rows.All
import Wide.All
import OpenK.AllK
import Wide.FinOn
import HandS.ForMost
import HandS.Gcd
import HandS.Wide
import HandS.NoneIn
import HandS.Zip
import HandS.SortRule
import HandS.Defaults
import PySem.Challenge.RW_cushioned_k69_whole_great_crowds
import HandS.SortKw
import KE.KMinKey
import KE.GoesEnum
import HandS.RepeatKit
import PyProof.Rows.SortShell
import HandS.Iter
import PyProof.TupleOfSeq
import KE.KSortTupG
import KE.DataFind
set_option Elab.async false
set_option linter.all false
set_option maxRecDepth 100000
set_option maxHeartbeats 2000000
/-! What a def does, told over pure data: environments rho of data, expressions that come to a datum (Ev), tests (EvT), statements (Sv). -/
namespace Cu
open PySem PySem.Spec PyProof.Rows L2

/-! ### data in the heap -/
mutual
/-- the value v stands for the datum d: all its lists and tuples are tracked -/
inductive Dr (H : Hp) : V → PyData → Prop
  | non : Dr H .non .none
  | bl (b : Bool) : Dr H (.bl b) (.bool b)
  | int (i : Int) : Dr H (.int i) (.int i)
  | str (x : Str) : Dr H (.str x) (.str x)
  | lst {a : Addr} {xs : List V} {ds : List PyData} : H a = some (.lst xs) → DrA H xs ds → Dr H (.ref a) (.list ds)
  | tup {a : Addr} {xs : List V} {ds : List PyData} : H a = some (.tup xs) → DrA H xs ds → Dr H (.ref a) (.tuple ds)
inductive DrA (H : Hp) : List V → List PyData → Prop
  | nil : DrA H [] []
  | cons {v : V} {vs : List V} {d : PyData} {ds : List PyData} : Dr H v d → DrA H vs ds → DrA H (v :: vs) (d :: ds)
end
mutual
theorem Dr.mono {H H' : Hp} (e : Same H H') : ∀ {v : V} {d : PyData}, Dr H v d → Dr H' v d
  | _, _, .non => .non
  | _, _, .bl b => .bl b
  | _, _, .int i => .int i
  | _, _, .str x => .str x
  | _, _, .lst h q => .lst (e _ _ h) (DrA.mono e q)
  | _, _, .tup h q => .tup (e _ _ h) (DrA.mono e q)
theorem DrA.mono {H H' : Hp} (e : Same H H') : ∀ {vs : List V} {ds : List PyData}, DrA H vs ds → DrA H' vs ds
  | _, _, .nil => .nil
  | _, _, .cons h q => .cons (Dr.mono e h) (DrA.mono e q)
end
mutual
theorem Dr.dp {K : PySem.W.Frag} {H : Hp} : ∀ {v : V} {d : PyData}, Dr H v d → Dp K H v d
  | _, _, .non => .non
  | _, _, .bl b => .bl b
  | _, _, .int i => .int i
  | _, _, .str x => .str x
  | _, _, .lst h q => .lst (SqL.of h) (DrA.dp q)
  | _, _, .tup h q => .tup (SqT.of h) (DrA.dp q)
theorem DrA.dp {K : PySem.W.Frag} {H : Hp} : ∀ {vs : List V} {ds : List PyData}, DrA H vs ds → DpAll K H vs ds
  | _, _, .nil => .nil
  | _, _, .cons h q => .cons (Dr.dp h) (DrA.dp q)
end
theorem DrA.length {H : Hp} : ∀ {vs : List V} {ds : List PyData}, DrA H vs ds → vs.length = ds.length
  | _, _, .nil => rfl
  | _, _, .cons _ q => congrArg Nat.succ q.length
theorem DrA.get {H : Hp} : ∀ {vs : List V} {ds : List PyData} {i : Nat} {d : PyData}, DrA H vs ds → ds[i]? = some d → ∃ v, vs[i]? = some v ∧ Dr H v d
  | _, _, _, _, .nil, e => by simp at e
  | _, _, 0, _, .cons h _, e => by
    simp at e
    subst e
    exact ⟨_, rfl, h⟩
  | _, _, i + 1, d, .cons _ q, e => by
    obtain ⟨v, h1, h2⟩ := DrA.get (i := i) (d := d) q (by simpa using e)
    exact ⟨v, by simpa using h1, h2⟩
theorem DrA.at {H : Hp} : ∀ {vs : List V} {ds : List PyData} {i : Nat} {v : V}, DrA H vs ds → vs[i]? = some v → ∃ d, ds[i]? = some d ∧ Dr H v d
  | _, _, _, _, .nil, e => by simp at e
  | _, _, 0, _, .cons h _, e => by
    simp at e
    subst e
    exact ⟨_, rfl, h⟩
  | _, _, i + 1, v, .cons _ q, e => by
    obtain ⟨d, h1, h2⟩ := DrA.at (i := i) (v := v) q (by simpa using e)
    exact ⟨d, by simpa using h1, h2⟩
theorem DrA.append {H : Hp} : ∀ {vs ws : List V} {ds es : List PyData}, DrA H vs ds → DrA H ws es → DrA H (vs ++ ws) (ds ++ es)
  | _, _, _, _, .nil, q => q
  | _, _, _, _, .cons h q, r => .cons h (q.append r)
theorem DrA.take {H : Hp} : ∀ {vs : List V} {ds : List PyData} (n : Nat), DrA H vs ds → DrA H (vs.take n) (ds.take n)
  | _, _, 0, _ => .nil
  | _, _, _ + 1, .nil => .nil
  | _, _, n + 1, .cons h q => .cons h (q.take n)
theorem DrA.drop {H : Hp} : ∀ {vs : List V} {ds : List PyData} (n : Nat), DrA H vs ds → DrA H (vs.drop n) (ds.drop n)
  | _, _, 0, q => q
  | _, _, _ + 1, .nil => .nil
  | _, _, n + 1, .cons _ q => q.drop n
theorem DrA.one {H : Hp} {v : V} {d : PyData} (h : Dr H v d) : DrA H [v] [d] := .cons h .nil
/-- ints, a list of them -/
theorem Dr.ofI {H : Hp} {v : V} {i : Int} (h : Dr H v (.int i)) : v = .int i := by
  cases h
  rfl
theorem Dr.ofB {H : Hp} {v : V} {i : Bool} (h : Dr H v (.bool i)) : v = .bl i := by
  cases h
  rfl
theorem Dr.ofS {H : Hp} {v : V} {i : Str} (h : Dr H v (.str i)) : v = .str i := by
  cases h
  rfl
theorem Dr.ofN {H : Hp} {v : V} (h : Dr H v .none) : v = .non := by
  cases h
  rfl
theorem Dr.ofL {H : Hp} {v : V} {ds : List PyData} (h : Dr H v (.list ds)) : ∃ a xs, v = .ref a ∧ H a = some (.lst xs) ∧ DrA H xs ds := by
  cases h with
  | lst h q => exact ⟨_, _, rfl, h, q⟩
theorem Dr.ofT {H : Hp} {v : V} {ds : List PyData} (h : Dr H v (.tuple ds)) : ∃ a xs, v = .ref a ∧ H a = some (.tup xs) ∧ DrA H xs ds := by
  cases h with
  | tup h q => exact ⟨_, _, rfl, h, q⟩
theorem DrA.ints {H : Hp} : ∀ {vs : List V} {ns : List Int}, DrA H vs (ns.map PyData.int) → vs = ns.map V.int
  | _, [], .nil => rfl
  | _, n :: ns, .cons h q => by rw [h.ofI, q.ints]; rfl
theorem DrA.ofInts {H : Hp} : ∀ ns : List Int, DrA H (ns.map V.int) (ns.map PyData.int)
  | [] => .nil
  | n :: ns => .cons (.int n) (DrA.ofInts ns)
theorem DrA.bools {H : Hp} : ∀ {vs : List V} {ns : List Bool}, DrA H vs (ns.map PyData.bool) → vs = ns.map V.bl
  | _, [], .nil => rfl
  | _, n :: ns, .cons h q => by rw [h.ofB, q.bools]; rfl
theorem DrA.strs {H : Hp} : ∀ {vs : List V} {ns : List Str}, DrA H vs (ns.map PyData.str) → vs = ns.map V.str
  | _, [], .nil => rfl
  | _, n :: ns, .cons h q => by rw [h.ofS, q.strs]; rfl
/-! #### data without a list: a change of a list leaves them -/
mutual
def flat : PyData → Bool
  | .none => true
  | .bool _ => true
  | .int _ => true
  | .str _ => true
  | .list _ => false
  | .tuple ds => flatA ds
  | .dict _ => false
def flatA : List PyData → Bool
  | [] => true
  | d :: ds => flat d && flatA ds
end
mutual
theorem Dr.upd {H : Hp} {l : Addr} {xs : List V} {o : HO} (hl : H l = some (.lst xs)) : ∀ {v : V} {d : PyData}, flat d = true → Dr H v d → Dr (upd H l o) v d
  | _, _, _, .non => .non
  | _, _, _, .bl b => .bl b
  | _, _, _, .int i => .int i
  | _, _, _, .str x => .str x
  | _, _, f, .tup (a := a) (xs := ys) h q => .tup (by rw [upd_ne (ne_of h hl (by intro z; cases z))]; exact h) (DrA.upd hl f q)
theorem DrA.upd {H : Hp} {l : Addr} {xs : List V} {o : HO} (hl : H l = some (.lst xs)) : ∀ {vs : List V} {ds : List PyData}, flatA ds = true → DrA H vs ds → DrA (L2.upd H l o) vs ds
  | _, _, _, .nil => .nil
  | _, _, f, .cons h q => .cons (Dr.upd hl (Bool.and_eq_true_iff.mp f).1 h) (DrA.upd hl (Bool.and_eq_true_iff.mp f).2 q)
end
theorem flatA_all : ∀ {ds : List PyData}, (∀ d ∈ ds, flat d = true) → flatA ds = true
  | [], _ => rfl
  | d :: ds, h => by
    show (flat d && flatA ds) = true
    rw [h d List.mem_cons_self, flatA_all fun e he => h e (List.mem_cons_of_mem _ he)]
    rfl

/-! ### predicates that stand when the heap grows -/
structure Pd where
  h : Hp → V → Prop
  up : ∀ {H H' : Hp} {v : V}, Same H H' → h H v → h H' v
def dat (d : PyData) : Pd := ⟨fun H v => Dr H v d, fun e q => q.mono e⟩
abbrev pI (i : Int) : Pd := dat (.int i)
abbrev pB (b : Bool) : Pd := dat (.bool b)
abbrev pS (x : Str) : Pd := dat (.str x)
abbrev pN : Pd := dat .none
abbrev pT (ds : List PyData) : Pd := dat (.tuple ds)
abbrev pL (ds : List PyData) : Pd := dat (.list ds)

theorem same_new {H : Hp} {p : Addr} {o : HO} (h : H p = none) : Same H (upd H p o) := fun b x e => by
  rw [upd_ne (ne_of_none e h)]
  exact e

/-! ### environments -/
abbrev Rho := List (Option Pd)
def StOk (H : Hp) : L2.St → Rho → Prop
  | [], [] => True
  | _ :: σ, none :: ρ => StOk H σ ρ
  | some v :: σ, some P :: ρ => P.h H v ∧ StOk H σ ρ
  | _, _ => False
def rat : Rho → Nat → Option Pd
  | [], _ => none
  | x :: _, 0 => x
  | _ :: r, n + 1 => rat r n
def rset : Rho → Nat → Option Pd → Rho
  | [], _, _ => []
  | _ :: r, 0, P => P :: r
  | x :: r, n + 1, P => x :: rset r n P
theorem StOk.mono {H H' : Hp} (e : Same H H') : ∀ {σ : L2.St} {ρ : Rho}, StOk H σ ρ → StOk H' σ ρ
  | [], [], _ => trivial
  | none :: σ, none :: ρ, h => StOk.mono e (σ := σ) (ρ := ρ) h
  | some _ :: σ, none :: ρ, h => StOk.mono e (σ := σ) (ρ := ρ) h
  | some v :: σ, some P :: ρ, h => ⟨P.up e h.1, StOk.mono e h.2⟩
  | none :: σ, some P :: ρ, h => h.elim
  | [], _ :: _, h => by simp [StOk] at h
  | _ :: _, [], h => by simp [StOk] at h
theorem StOk.len {H : Hp} : ∀ {σ : L2.St} {ρ : Rho}, StOk H σ ρ → σ.length = ρ.length
  | [], [], _ => rfl
  | none :: σ, none :: ρ, h => congrArg Nat.succ (StOk.len (H := H) (σ := σ) (ρ := ρ) h)
  | some _ :: σ, none :: ρ, h => congrArg Nat.succ (StOk.len (H := H) (σ := σ) (ρ := ρ) h)
  | some v :: σ, some P :: ρ, h => congrArg Nat.succ (StOk.len h.2)
  | none :: σ, some P :: ρ, h => h.elim
  | [], _ :: _, h => by simp [StOk] at h
  | _ :: _, [], h => by simp [StOk] at h
theorem StOk.get {H : Hp} : ∀ {σ : L2.St} {ρ : Rho} {i : Nat} {P : Pd}, StOk H σ ρ → rat ρ i = some P → ∃ v, σ[i]? = some (some v) ∧ P.h H v
  | [], [], _, _, _, e => by simp [rat] at e
  | none :: σ, none :: ρ, 0, _, _, e => by simp [rat] at e
  | some _ :: σ, none :: ρ, 0, _, _, e => by simp [rat] at e
  | none :: σ, none :: ρ, i + 1, P, h, e => StOk.get (H := H) (σ := σ) (ρ := ρ) (i := i) h e
  | some _ :: σ, none :: ρ, i + 1, P, h, e => StOk.get (H := H) (σ := σ) (ρ := ρ) (i := i) h e
  | some v :: σ, some P :: ρ, 0, _, h, e => by
    simp [rat] at e
    subst e
    exact ⟨v, rfl, h.1⟩
  | some v :: σ, some P :: ρ, i + 1, _, h, e => StOk.get (σ := σ) (ρ := ρ) (i := i) h.2 e
  | none :: σ, some P :: ρ, _, _, h, _ => h.elim
  | [], _ :: _, _, _, h, _ => by simp [StOk] at h
  | _ :: _, [], _, _, h, _ => by simp [StOk] at h
theorem StOk.set {H : Hp} {v : V} {P : Pd} (hv : P.h H v) : ∀ {σ : L2.St} {ρ : Rho} {i : Nat}, StOk H σ ρ → StOk H (σ.set i (some v)) (rset ρ i (some P))
  | [], [], _, _ => trivial
  | none :: σ, none :: ρ, 0, h => ⟨hv, h⟩
  | some _ :: σ, none :: ρ, 0, h => ⟨hv, h⟩
  | none :: σ, none :: ρ, i + 1, h => StOk.set hv (σ := σ) (ρ := ρ) (i := i) h
  | some _ :: σ, none :: ρ, i + 1, h => StOk.set hv (σ := σ) (ρ := ρ) (i := i) h
  | some w :: σ, some Q :: ρ, 0, h => ⟨hv, h.2⟩
  | some w :: σ, some Q :: ρ, i + 1, h => ⟨h.1, StOk.set hv h.2⟩
  | none :: σ, some Q :: ρ, _, h => h.elim
  | [], _ :: _, _, h => by simp [StOk] at h
  | _ :: _, [], _, h => by simp [StOk] at h
/-- what is known may be forgotten -/
theorem StOk.drop {H : Hp} : ∀ {σ : L2.St} {ρ : Rho} {i : Nat}, StOk H σ ρ → StOk H (σ.set i none) (rset ρ i none)
  | [], [], _, _ => trivial
  | none :: σ, none :: ρ, 0, h => h
  | some _ :: σ, none :: ρ, 0, h => h
  | none :: σ, none :: ρ, i + 1, h => StOk.drop (H := H) (σ := σ) (ρ := ρ) (i := i) h
  | some _ :: σ, none :: ρ, i + 1, h => StOk.drop (H := H) (σ := σ) (ρ := ρ) (i := i) h
  | some w :: σ, some Q :: ρ, 0, h => h.2
  | some w :: σ, some Q :: ρ, i + 1, h => ⟨h.1, StOk.drop h.2⟩
  | none :: σ, some Q :: ρ, _, h => h.elim
  | [], _ :: _, _, h => by simp [StOk] at h
  | _ :: _, [], _, h => by simp [StOk] at h
/-- a weaker environment: fewer things are said -/
def Weak : Rho → Rho → Prop
  | [], [] => True
  | _ :: ρ, none :: ρ' => Weak ρ ρ'
  | some P :: ρ, some P' :: ρ' => P = P' ∧ Weak ρ ρ'
  | _, _ => False
theorem StOk.weak {H : Hp} : ∀ {σ : L2.St} {ρ ρ' : Rho}, Weak ρ ρ' → StOk H σ ρ → StOk H σ ρ'
  | [], [], [], _, _ => trivial
  | none :: σ, none :: ρ, none :: ρ', w, h => StOk.weak (H := H) (σ := σ) (ρ := ρ) (ρ' := ρ') w h
  | some _ :: σ, none :: ρ, none :: ρ', w, h => StOk.weak (H := H) (σ := σ) (ρ := ρ) (ρ' := ρ') w h
  | some v :: σ, some P :: ρ, none :: ρ', w, h => StOk.weak (H := H) (σ := σ) (ρ := ρ) (ρ' := ρ') w h.2
  | some v :: σ, some P :: ρ, some P' :: ρ', w, h => ⟨w.1 ▸ h.1, StOk.weak w.2 h.2⟩
  | none :: σ, some P :: ρ, _, _, h => h.elim
  | [], _ :: _, _, _, h => by simp [StOk] at h
  | _ :: _, [], _, _, h => by simp [StOk] at h
  | [], [], _ :: _, w, _ => by simp [Weak] at w
  | _ :: _, none :: _, some _ :: _, w, _ => by simp [Weak] at w
  | _ :: _, _ :: _, [], w, _ => by simp [Weak] at w
end Cu
set_option Elab.async false
set_option linter.all false
set_option maxRecDepth 100000
set_option maxHeartbeats 2000000
namespace Cu
open PySem PySem.Spec PyProof.Rows L2

theorem small1000' {n : Nat} (h : n ≤ 1000) : n ≤ sizeLine := Nat.le_of_lt (small1000 h)
/-! ### readings over data -/
inductive PsOk (H : Hp) : List V → List Pd → Prop
  | nil : PsOk H [] []
  | cons {v : V} {vs : List V} {P : Pd} {Ps : List Pd} : P.h H v → PsOk H vs Ps → PsOk H (v :: vs) (P :: Ps)
theorem PsOk.mono {H H' : Hp} (e : Same H H') : ∀ {vs : List V} {Ps : List Pd}, PsOk H vs Ps → PsOk H' vs Ps
  | _, _, .nil => .nil
  | _, _, .cons (P := P) h q => .cons (P.up e h) (q.mono e)
theorem PsOk.length {H : Hp} : ∀ {vs : List V} {Ps : List Pd}, PsOk H vs Ps → vs.length = Ps.length
  | _, _, .nil => rfl
  | _, _, .cons _ q => congrArg Nat.succ q.length
theorem PsOk.dats {H : Hp} : ∀ {vs : List V} {ds : List PyData}, PsOk H vs (ds.map dat) → DrA H vs ds
  | _, [], .nil => .nil
  | _, d :: ds, .cons h q => .cons h q.dats

def tEv (ρ : Rho) (P : Pd) : TE := fun σ H Q => StOk H σ ρ ∧ ∀ v H', Same H H' → P.h H' v → Q v H'
def tEvT (ρ : Rho) (b : Bool) : TT := fun σ H Q => StOk H σ ρ ∧ ∀ H', Same H H' → Q b H'
def tEvA (ρ : Rho) (Ps : List Pd) : TA := fun σ H Q => StOk H σ ρ ∧ ∀ vs H', Same H H' → PsOk H' vs Ps → Q vs H'
abbrev Ev (X : Cx) (e : Expr) (ρ : Rho) (P : Pd) : Prop := PE X e (tEv ρ P)
abbrev EvT (X : Cx) (e : Expr) (ρ : Rho) (b : Bool) : Prop := PT X e (tEvT ρ b)
abbrev EvW (X : Cx) (e : Expr) (ρ : Rho) (b : Bool) : Prop := PW X e (tEvT ρ b)
abbrev EvA (X : Cx) (es : List Expr) (ρ : Rho) (Ps : List Pd) : Prop := PA X es (tEvA ρ Ps)
abbrev EvD (X : Cx) (es : List Expr) (ρ : Rho) (ds : List PyData) : Prop := PA X es (tEvA ρ (ds.map dat))

section
variable {X : Cx} {e a b c : Expr} {es : List Expr} {ρ : Rho} {P P1 P2 P3 : Pd} {pos p p2 : Pos} {x : Str}
theorem pe_to {t t' : TE} (h : PE X e t) (w : ∀ σ H Q, t' σ H Q → t σ H Q) : PE X e t' := ⟨fun pins s σ H Q I q => h.run pins s σ H Q I (w σ H Q q)⟩
theorem pt_to {t t' : TT} (h : PT X e t) (w : ∀ σ H Q, t' σ H Q → t σ H Q) : PT X e t' := ⟨fun pins s σ H Q I q => h.run pins s σ H Q I (w σ H Q q)⟩
theorem pw_to {t t' : TT} (h : PW X e t) (w : ∀ σ H Q, t' σ H Q → t σ H Q) : PW X e t' := ⟨fun wh pins s σ H Q I q => h.run wh pins s σ H Q I (w σ H Q q)⟩
theorem pa_to {t t' : TA} (h : PA X es t) (w : ∀ σ H Q, t' σ H Q → t σ H Q) : PA X es t' := ⟨fun q pins s σ H Q I k => h.run q pins s σ H Q I (w σ H Q k)⟩
theorem pe_no : PE X e (fun _ _ _ => False) := ⟨fun _ _ _ _ _ _ h => h.elim⟩
theorem pt_no : PT X e (fun _ _ _ => False) := ⟨fun _ _ _ _ _ _ h => h.elim⟩
theorem pw_no : PW X e (fun _ _ _ => False) := ⟨fun _ _ _ _ _ _ _ h => h.elim⟩

/-! ### names, constants -/
theorem ev_cast (h : Ev X e ρ P) (q : P = P1) : Ev X e ρ P1 := q ▸ h
theorem ev_var (i : Nat) (h : rat ρ i = some P := by rfl) (hN : X.N[i]? = some x := by rfl) (hv : Vis X.env.scope x := by first | exact Or.inl rfl | exact Or.inr (Or.inl rfl) | exact Or.inr (Or.inr rfl))
    (hd : (x == ("__debug__" : Str)) = false := by decide) (hcd : (x == ("__classdict__" : Str)) = false := by decide) : Ev X (.Name x pos) ρ P :=
  pe_to (pe_var hN hv hd hcd) fun σ H Q ⟨st, k⟩ => by
    obtain ⟨v, e1, q⟩ := st.get h
    exact ⟨v, e1, k v H (Same.refl H) q⟩
theorem ev_const {v : V} (h : PE X e (tC v)) (hP : ∀ H, P.h H v) : Ev X e ρ P := pe_to h fun σ H Q ⟨_, k⟩ => k v H (Same.refl H) (hP H)
theorem ev_int {i : Int} {j : Nat} : Ev X (.Constant (.int i) j pos) ρ (pI i) := ev_const pe_int fun H => Dr.int i
theorem ev_bl {i : Bool} {j : Nat} : Ev X (.Constant (.bool i) j pos) ρ (pB i) := ev_const pe_bl fun _ => .bl i
theorem ev_non {j : Nat} : Ev X (.Constant .none j pos) ρ pN := ev_const pe_non fun _ => .non
theorem ev_str {y : Str} {j : Nat} : Ev X (.Constant (.str y) j pos) ρ (pS y) := ev_const pe_str fun _ => .str y
/-- a module's constant -/
theorem ev_gint {i : Int} (hm : ∃ t, X.mg x = some (.int i t)) (hg : Gl X x := by rfl) (hd : (x == ("__debug__" : Str)) = false := by decide) : Ev X (.Name x pos) ρ (pI i) := by
  obtain ⟨t, hm⟩ := hm
  exact ev_const (pe_glob (v := .int i) hg hm ⟨t, rfl⟩ hd) fun _ => Dr.int i
theorem ev_gstr {i : Str} (hm : ∃ t, X.mg x = some (.str i t)) (hg : Gl X x := by rfl) (hd : (x == ("__debug__" : Str)) = false := by decide) : Ev X (.Name x pos) ρ (pS i) := by
  obtain ⟨t, hm⟩ := hm
  exact ev_const (pe_glob (v := .str i) hg hm ⟨t, rfl⟩ hd) fun _ => Dr.str i

/-! ### operators -/
theorem ev_op {op : Operator} {r : R2} (ho : OpR X (binaryOp op) r) (ha : Ev X a ρ P1) (hb : Ev X b ρ P2)
    (hr : ∀ (H : Hp) (u v : V) (Q : VK), P1.h H u → P2.h H v → (∀ z H', Same H H' → P.h H' z → Q z H') → r u v H Q) : Ev X (.BinOp a op b pos) ρ P :=
  pe_to (pe_op ho ha hb) fun σ H Q ⟨st, k⟩ => ⟨st, fun u H1 e1 q1 => ⟨st.mono e1, fun v H2 e2 q2 => hr H2 u v Q (P1.up e2 q1) q2 fun z H' e3 q => k z H' (e1.trans (e2.trans e3)) q⟩⟩
variable {i j k : Int}
theorem ev_opI {op : Operator} {C : Int → Int → Prop} {g : Int → Int → Int} (ho : OpR X (binaryOp op) (rI C fun i j => .int (g i j))) (ha : Ev X a ρ (pI i)) (hb : Ev X b ρ (pI j)) (hc : C i j) : Ev X (.BinOp a op b pos) ρ (pI (g i j)) :=
  ev_op ho ha hb fun H u v Q h1 h2 q => ⟨i, j, h1.ofI, h2.ofI, hc, q _ H (Same.refl H) (.int _)⟩
theorem ev_opI0 {op : Operator} {g : Int → Int → Int} (ho : OpR X (binaryOp op) (rI0 fun i j => .int (g i j))) (ha : Ev X a ρ (pI i)) (hb : Ev X b ρ (pI j)) : Ev X (.BinOp a op b pos) ρ (pI (g i j)) :=
  ev_op ho ha hb fun H u v Q h1 h2 q => ⟨i, j, h1.ofI, h2.ofI, q _ H (Same.refl H) (.int _)⟩
theorem ev_add (ha : Ev X a ρ (pI i)) (hb : Ev X b ρ (pI j)) : Ev X (.BinOp a .Add b pos) ρ (pI (i + j)) := ev_opI0 (g := fun i j => i + j) op_add ha hb
theorem ev_sub (ha : Ev X a ρ (pI i)) (hb : Ev X b ρ (pI j)) : Ev X (.BinOp a .Sub b pos) ρ (pI (i - j)) := ev_opI0 (g := fun i j => i - j) op_sub ha hb
theorem ev_mul (ha : Ev X a ρ (pI i)) (hb : Ev X b ρ (pI j)) (hc : CMul i j) : Ev X (.BinOp a .Mult b pos) ρ (pI (i * j)) := ev_opI (g := fun i j => i * j) op_mul ha hb hc
theorem ev_mulW (ha : Ev X a ρ (pI i)) (hb : Ev X b ρ (pI j)) (hc : CMulW i j) : Ev X (.BinOp a .Mult b pos) ρ (pI (i * j)) := ev_opI (g := fun i j => i * j) op_mulW ha hb hc
theorem ev_div (ha : Ev X a ρ (pI i)) (hb : Ev X b ρ (pI j)) (hc : CDiv i j) : Ev X (.BinOp a .FloorDiv b pos) ρ (pI (i / j)) := ev_opI (g := fun i j => i / j) op_fdiv ha hb hc
theorem ev_divW (ha : Ev X a ρ (pI i)) (hb : Ev X b ρ (pI j)) (hc : CDivW i j) : Ev X (.BinOp a .FloorDiv b pos) ρ (pI (i / j)) := ev_opI (g := fun i j => i / j) op_fdivW ha hb hc
theorem ev_mod (ha : Ev X a ρ (pI i)) (hb : Ev X b ρ (pI j)) (hc : 0 < j) : Ev X (.BinOp a .Mod b pos) ρ (pI (i % j)) := ev_opI (C := fun _ j => 0 < j) (g := fun i j => i % j) op_mod ha hb hc
theorem ev_pow (ha : Ev X a ρ (pI i)) (hb : Ev X b ρ (pI j)) (hc : CPow i j) : Ev X (.BinOp a .Pow b pos) ρ (pI (i ^ j.toNat)) := ev_opI (g := fun i j => i ^ j.toNat) op_pow ha hb hc
theorem ev_neg (ha : Ev X a ρ (pI i)) : Ev X (.UnaryOp .USub a pos) ρ (pI (-i)) :=
  pe_to (pe_un un_neg ha) fun σ H Q ⟨st, k⟩ => ⟨st, fun u H1 e1 q1 => ⟨i, q1.ofI, k _ H1 e1 (.int _)⟩⟩
/-! ### comparisons, as values, as tests -/
theorem ev_cmp {op : CmpOp} {r : R2} {t : Bool} (ho : OpR X (compareOp op) r) (ha : Ev X a ρ P1) (hb : Ev X b ρ P2)
    (hr : ∀ (H : Hp) (u v : V) (Q : VK), P1.h H u → P2.h H v → (∀ H', Same H H' → Q (.bl t) H') → r u v H Q) (hm : behindInMarks op b = false) : Ev X (.Compare a [op] [b] pos) ρ (pB t) :=
  pe_to (pe_cmpR ho ha hb hm) fun σ H Q ⟨st, k⟩ => ⟨st, fun u H1 e1 q1 => ⟨st.mono e1, fun v H2 e2 q2 => hr H2 u v Q (P1.up e2 q1) q2 fun H' e3 => k _ H' (e1.trans (e2.trans e3)) (.bl _)⟩⟩
theorem evt_cmp {op : CmpOp} {r : R2} {t : Bool} (ho : OpR X (compareOp op) r) (ha : Ev X a ρ P1) (hb : Ev X b ρ P2)
    (hr : ∀ (H : Hp) (u v : V) (Q : VK), P1.h H u → P2.h H v → (∀ H', Same H H' → Q (.bl t) H') → r u v H Q) (hm : behindInMarks op b = false) : EvT X (.Compare a [op] [b] pos) ρ t :=
  pt_to (pt_cmpR ho ha hb hm) fun σ H Q ⟨st, k⟩ => ⟨st, fun u H1 e1 q1 => ⟨st.mono e1, fun v H2 e2 q2 => hr H2 u v _ (P1.up e2 q1) q2 fun H' e3 => ⟨t, rfl, k H' (e1.trans (e2.trans e3))⟩⟩⟩
theorem cI {g : Int → Int → Bool} {H : Hp} {u v : V} {Q : VK} (h1 : (pI i).h H u) (h2 : (pI j).h H v) (q : ∀ H', Same H H' → Q (.bl (g i j)) H') : rI0 (fun i j => .bl (g i j)) u v H Q := ⟨i, j, h1.ofI, h2.ofI, q H (Same.refl H)⟩
theorem ev_lt (ha : Ev X a ρ (pI i)) (hb : Ev X b ρ (pI j)) : Ev X (.Compare a [.Lt] [b] pos) ρ (pB (decide (i < j))) := ev_cmp op_lt ha hb (fun _ _ _ _ h1 h2 q => cI (g := fun i j => decide (i < j)) h1 h2 q) (nomark _)
theorem ev_le (ha : Ev X a ρ (pI i)) (hb : Ev X b ρ (pI j)) : Ev X (.Compare a [.LtE] [b] pos) ρ (pB (decide (i ≤ j))) := ev_cmp op_le ha hb (fun _ _ _ _ h1 h2 q => cI (g := fun i j => decide (i ≤ j)) h1 h2 q) (nomark _)
theorem ev_gt (ha : Ev X a ρ (pI i)) (hb : Ev X b ρ (pI j)) : Ev X (.Compare a [.Gt] [b] pos) ρ (pB (decide (j < i))) := ev_cmp op_gt ha hb (fun _ _ _ _ h1 h2 q => cI (g := fun i j => decide (j < i)) h1 h2 q) (nomark _)
theorem ev_ge (ha : Ev X a ρ (pI i)) (hb : Ev X b ρ (pI j)) : Ev X (.Compare a [.GtE] [b] pos) ρ (pB (decide (j ≤ i))) := ev_cmp op_ge ha hb (fun _ _ _ _ h1 h2 q => cI (g := fun i j => decide (j ≤ i)) h1 h2 q) (nomark _)
theorem evt_lt (ha : Ev X a ρ (pI i)) (hb : Ev X b ρ (pI j)) : EvT X (.Compare a [.Lt] [b] pos) ρ (decide (i < j)) := evt_cmp op_lt ha hb (fun _ _ _ _ h1 h2 q => cI (g := fun i j => decide (i < j)) h1 h2 q) (nomark _)
theorem evt_le (ha : Ev X a ρ (pI i)) (hb : Ev X b ρ (pI j)) : EvT X (.Compare a [.LtE] [b] pos) ρ (decide (i ≤ j)) := evt_cmp op_le ha hb (fun _ _ _ _ h1 h2 q => cI (g := fun i j => decide (i ≤ j)) h1 h2 q) (nomark _)
theorem evt_gt (ha : Ev X a ρ (pI i)) (hb : Ev X b ρ (pI j)) : EvT X (.Compare a [.Gt] [b] pos) ρ (decide (j < i)) := evt_cmp op_gt ha hb (fun _ _ _ _ h1 h2 q => cI (g := fun i j => decide (j < i)) h1 h2 q) (nomark _)
theorem evt_ge (ha : Ev X a ρ (pI i)) (hb : Ev X b ρ (pI j)) : EvT X (.Compare a [.GtE] [b] pos) ρ (decide (j ≤ i)) := evt_cmp op_ge ha hb (fun _ _ _ _ h1 h2 q => cI (g := fun i j => decide (j ≤ i)) h1 h2 q) (nomark _)
theorem cEq {H : Hp} {u v : V} {Q : VK} (h1 : (pI i).h H u) (h2 : (pI j).h H v) (q : ∀ H', Same H H' → Q (.bl (decide (i = j))) H') : rEq u v H Q := by
  obtain rfl := h1.ofI
  obtain rfl := h2.ofI
  refine ⟨rfl, ?_⟩
  rw [show decide (V.int i = V.int j) = decide (i = j) from decide_eq_decide.mpr ⟨fun z => V.int.inj z, fun z => z ▸ rfl⟩]
  exact q H (Same.refl H)
theorem cNe {H : Hp} {u v : V} {Q : VK} (h1 : (pI i).h H u) (h2 : (pI j).h H v) (q : ∀ H', Same H H' → Q (.bl (!decide (i = j))) H') : rNe u v H Q := by
  obtain rfl := h1.ofI
  obtain rfl := h2.ofI
  refine ⟨rfl, ?_⟩
  rw [show decide (V.int i = V.int j) = decide (i = j) from decide_eq_decide.mpr ⟨fun z => V.int.inj z, fun z => z ▸ rfl⟩]
  exact q H (Same.refl H)
theorem ev_eq (ha : Ev X a ρ (pI i)) (hb : Ev X b ρ (pI j)) : Ev X (.Compare a [.Eq] [b] pos) ρ (pB (decide (i = j))) := ev_cmp op_eq ha hb (fun _ _ _ _ h1 h2 q => cEq h1 h2 q) (nomark _)
theorem ev_ne (ha : Ev X a ρ (pI i)) (hb : Ev X b ρ (pI j)) : Ev X (.Compare a [.NotEq] [b] pos) ρ (pB (!decide (i = j))) := ev_cmp op_ne ha hb (fun _ _ _ _ h1 h2 q => cNe h1 h2 q) (nomark _)
theorem evt_eq (ha : Ev X a ρ (pI i)) (hb : Ev X b ρ (pI j)) : EvT X (.Compare a [.Eq] [b] pos) ρ (decide (i = j)) := evt_cmp op_eq ha hb (fun _ _ _ _ h1 h2 q => cEq h1 h2 q) (nomark _)
theorem evt_ne (ha : Ev X a ρ (pI i)) (hb : Ev X b ρ (pI j)) : EvT X (.Compare a [.NotEq] [b] pos) ρ (!decide (i = j)) := evt_cmp op_ne ha hb (fun _ _ _ _ h1 h2 q => cNe h1 h2 q) (nomark _)
/-- two texts, two truth values -/
theorem cEqS {y z : Str} {H : Hp} {u v : V} {Q : VK} (h1 : (pS y).h H u) (h2 : (pS z).h H v) (q : ∀ H', Same H H' → Q (.bl (decide (y = z))) H') : rEq u v H Q := by
  obtain rfl := h1.ofS
  obtain rfl := h2.ofS
  refine ⟨rfl, ?_⟩
  rw [show decide (V.str y = V.str z) = decide (y = z) from decide_eq_decide.mpr ⟨fun z => V.str.inj z, fun z => z ▸ rfl⟩]
  exact q H (Same.refl H)
theorem evt_eqS {y z : Str} (ha : Ev X a ρ (pS y)) (hb : Ev X b ρ (pS z)) : EvT X (.Compare a [.Eq] [b] pos) ρ (decide (y = z)) := evt_cmp op_eq ha hb (fun _ _ _ _ h1 h2 q => cEqS h1 h2 q) (nomark _)
theorem ev_eqB {y z : Bool} (ha : Ev X a ρ (pB y)) (hb : Ev X b ρ (pB z)) : Ev X (.Compare a [.Eq] [b] pos) ρ (pB (decide (y = z))) := ev_cmp op_eq ha hb (fun H u v Q h1 h2 q => by
  obtain rfl := h1.ofB
  obtain rfl := h2.ofB
  refine ⟨rfl, ?_⟩
  rw [show decide (V.bl y = V.bl z) = decide (y = z) from decide_eq_decide.mpr ⟨fun z => V.bl.inj z, fun z => z ▸ rfl⟩]
  exact q H (Same.refl H)) (nomark _)
/-- two data of any depth -/
theorem evt_eqD {d d' : PyData} (hu : X.A.units + 64 < cLine) (ha : Ev X a ρ (dat d)) (hb : Ev X b ρ (dat d')) (s1 : SeqAt.shaped d = true := by rfl) (s2 : SeqAt.shaped d' = true := by rfl) : EvT X (.Compare a [.Eq] [b] pos) ρ (PyData.eqv d d') :=
  evt_cmp (op_eqD hu) ha hb (fun H u v Q h1 h2 q => ⟨d, d', h1.dp, h2.dp, s1, s2, q H (Same.refl H)⟩) (nomark _)
theorem ev_eqD {d d' : PyData} (hu : X.A.units + 64 < cLine) (ha : Ev X a ρ (dat d)) (hb : Ev X b ρ (dat d')) (s1 : SeqAt.shaped d = true := by rfl) (s2 : SeqAt.shaped d' = true := by rfl) : Ev X (.Compare a [.Eq] [b] pos) ρ (pB (PyData.eqv d d')) :=
  ev_cmp (op_eqD hu) ha hb (fun H u v Q h1 h2 q => ⟨d, d', h1.dp, h2.dp, s1, s2, q H (Same.refl H)⟩) (nomark _)
theorem evt_neD {d d' : PyData} (hu : X.A.units + 64 < cLine) (ha : Ev X a ρ (dat d)) (hb : Ev X b ρ (dat d')) (s1 : SeqAt.shaped d = true := by rfl) (s2 : SeqAt.shaped d' = true := by rfl) : EvT X (.Compare a [.NotEq] [b] pos) ρ (!PyData.eqv d d') :=
  evt_cmp (op_neD hu) ha hb (fun H u v Q h1 h2 q => ⟨d, d', h1.dp, h2.dp, s1, s2, q H (Same.refl H)⟩) (nomark _)
theorem ev_neD {d d' : PyData} (hu : X.A.units + 64 < cLine) (ha : Ev X a ρ (dat d)) (hb : Ev X b ρ (dat d')) (s1 : SeqAt.shaped d = true := by rfl) (s2 : SeqAt.shaped d' = true := by rfl) : Ev X (.Compare a [.NotEq] [b] pos) ρ (pB (!PyData.eqv d d')) :=
  ev_cmp (op_neD hu) ha hb (fun H u v Q h1 h2 q => ⟨d, d', h1.dp, h2.dp, s1, s2, q H (Same.refl H)⟩) (nomark _)
/-- x is not None -/
def isN : PyData → Bool
  | .none => true
  | _ => false
theorem Dr.isN {H : Hp} {v : V} {d : PyData} (h : Dr H v d) : decide (v = .non) = Cu.isN d := by
  cases h <;> rfl
theorem evt_notN {d : PyData} (ha : Ev X a ρ (dat d)) (hb : Ev X b ρ pN) : EvT X (.Compare a [.IsNot] [b] pos) ρ (!Cu.isN d) :=
  evt_cmp op_notN ha hb (fun H u v Q h1 h2 q => ⟨h2.ofN, by rw [Dr.isN h1]; exact q H (Same.refl H)⟩) (nomark _)
/-- i <= j <= k -/
theorem ev_chain {t t' : Bool} {op op' : CmpOp} {r r' : R2} (ho : OpR X (compareOp op) r) (ho' : OpR X (compareOp op') r') (ha : Ev X a ρ P1) (hb : Ev X b ρ P2) (hc : Ev X c ρ P3)
    (hr : ∀ (H : Hp) (u v : V) (Q : VK), P1.h H u → P2.h H v → (∀ H', Same H H' → Q (.bl t) H') → r u v H Q) (hr' : ∀ (H : Hp) (u v : V) (Q : VK), P2.h H u → P3.h H v → (∀ H', Same H H' → Q (.bl t') H') → r' u v H Q)
    (hm : lastMarks [op, op'] [b, c] = false := by with_unfolding_all rfl) : Ev X (.Compare a [op, op'] [b, c] pos) ρ (pB (t && t')) :=
  pe_to (pe_chain ho ho' ha hb hc hm) fun σ H Q ⟨st, k⟩ => ⟨st, fun u H1 e1 q1 => ⟨st.mono e1, fun v H2 e2 q2 => hr H2 u v _ (P1.up e2 q1) q2 fun H3 e3 => ⟨t, rfl, by
    cases t with
    | false => exact iteF (k _ H3 (e1.trans (e2.trans e3)) (.bl _))
    | true => exact iteT ⟨st.mono (e1.trans (e2.trans e3)), fun w' H4 e4 q4 => hr' H4 v w' Q (P2.up (e3.trans e4) q2) q4 fun H5 e5 => k _ H5 (e1.trans (e2.trans (e3.trans (e4.trans e5)))) (.bl _)⟩⟩⟩⟩
theorem ev_lele (ha : Ev X a ρ (pI i)) (hb : Ev X b ρ (pI j)) (hc : Ev X c ρ (pI k)) (hm : lastMarks [.LtE, .LtE] [b, c] = false := by with_unfolding_all rfl) : Ev X (.Compare a [.LtE, .LtE] [b, c] pos) ρ (pB (decide (i ≤ j) && decide (j ≤ k))) :=
  ev_chain op_le op_le ha hb hc (fun _ _ _ _ h1 h2 q => cI (g := fun i j => decide (i ≤ j)) h1 h2 q) (fun _ _ _ _ h1 h2 q => cI (g := fun i j => decide (i ≤ j)) h1 h2 q) hm
/-! ### tests -/
theorem evt_cast {t t' : Bool} (h : EvT X e ρ t) (q : t = t') : EvT X e ρ t' := q ▸ h
theorem evt_val {t : Bool} (h : Ev X e ρ (pB t)) (he : ∀ whole, isTrue e X.env whole = (do let v ← whole; standAt e.pos; holding [v] (truthy v)) := by intro _; rfl) : EvT X e ρ t :=
  pt_to (pt_val h he) fun σ H Q ⟨st, k⟩ => ⟨st, fun v H1 e1 q1 => ⟨t, q1.ofB, k H1 e1⟩⟩
/-- an int's truth, a list's -/
theorem evt_int (h : Ev X e ρ (pI i)) (he : ∀ whole, isTrue e X.env whole = (do let v ← whole; standAt e.pos; holding [v] (truthy v)) := by intro _; rfl) : EvT X e ρ (i != 0) :=
  pt_to (pt_truth h he) fun σ H Q ⟨st, k⟩ => ⟨st, fun v H1 e1 q1 => ⟨_, by obtain rfl := q1.ofI; exact rfl, k H1 e1⟩⟩
theorem evt_list {ds : List PyData} (h : Ev X e ρ (pL ds)) (he : ∀ whole, isTrue e X.env whole = (do let v ← whole; standAt e.pos; holding [v] (truthy v)) := by intro _; rfl) : EvT X e ρ (!ds.isEmpty) :=
  pt_to (pt_truth h he) fun σ H Q ⟨st, k⟩ => ⟨st, fun v H1 e1 q1 => ⟨_, by
    obtain ⟨l, xs, rfl, hl, q⟩ := q1.ofL
    exact .inl ⟨xs, SqL.of hl, by cases q <;> rfl⟩, k H1 e1⟩⟩
theorem evt_not {t : Bool} (h : EvT X e ρ t) : EvT X (.UnaryOp .Not e pos) ρ (!t) := pt_to (pt_not h) fun σ H Q ⟨st, k⟩ => ⟨st, fun H1 e1 => k H1 e1⟩
theorem evw_and1 {t : Bool} (h : EvT X a ρ t) : EvW X (.BoolOp .And [a] pos) ρ t := pw_and1 h
theorem evw_or1 {t : Bool} (h : EvT X a ρ t) : EvW X (.BoolOp .Or [a] pos) ρ t := pw_or1 h
theorem evw_and {t u : Bool} (h : EvT X a ρ t) (h2 : t = true → EvW X (.BoolOp .And (b :: es) pos) ρ u) : EvW X (.BoolOp .And (a :: b :: es) pos) ρ (t && u) := by
  cases t with
  | false => exact pw_to (pw_and h pw_no) fun σ H Q ⟨st, k⟩ => ⟨st, fun H1 e1 => iteF (k H1 e1)⟩
  | true => exact pw_to (pw_and h (h2 rfl)) fun σ H Q ⟨st, k⟩ => ⟨st, fun H1 e1 => iteT ⟨st.mono e1, fun H2 e2 => k H2 (e1.trans e2)⟩⟩
theorem evw_or {t u : Bool} (h : EvT X a ρ t) (h2 : t = false → EvW X (.BoolOp .Or (b :: es) pos) ρ u) : EvW X (.BoolOp .Or (a :: b :: es) pos) ρ (t || u) := by
  cases t with
  | true => exact pw_to (pw_or h pw_no) fun σ H Q ⟨st, k⟩ => ⟨st, fun H1 e1 => iteT (k H1 e1)⟩
  | false => exact pw_to (pw_or h (h2 rfl)) fun σ H Q ⟨st, k⟩ => ⟨st, fun H1 e1 => iteF ⟨st.mono e1, fun H2 e2 => k H2 (e1.trans e2)⟩⟩
theorem evt_w {t : Bool} (h : EvW X e ρ t) : EvT X e ρ t := h.pt
/-- and of truth values, as a value -/
theorem ev_one {op : BoolOp} (h : Ev X a ρ P) : Ev X (.BoolOp op [a] pos) ρ P := pe_one h
theorem ev_and {t u : Bool} (h : Ev X a ρ (pB t)) (h2 : t = true → Ev X (.BoolOp .And (b :: es) pos) ρ (pB u)) : Ev X (.BoolOp .And (a :: b :: es) pos) ρ (pB (t && u)) := by
  cases t with
  | false => exact pe_to (pe_and h pe_no) fun σ H Q ⟨st, k⟩ => ⟨st, fun v H1 e1 q1 => ⟨false, q1.ofB, iteF (k _ H1 e1 (.bl _))⟩⟩
  | true => exact pe_to (pe_and h (h2 rfl)) fun σ H Q ⟨st, k⟩ => ⟨st, fun v H1 e1 q1 => ⟨true, q1.ofB, iteT ⟨st.mono e1, fun v H2 e2 q => k v H2 (e1.trans e2) q⟩⟩⟩
/-- a if t else b -/
theorem ev_if {t : Bool} (hc : EvT X c ρ t) (h1 : t = true → Ev X a ρ P) (h2 : t = false → Ev X b ρ P) : Ev X (.IfExp c a b pos) ρ P := by
  cases t with
  | true => exact pe_to (pe_ifExp hc (h1 rfl) pe_no) fun σ H Q ⟨st, k⟩ => ⟨st, fun H1 e1 => iteT ⟨st.mono e1, fun v H2 e2 q => k v H2 (e1.trans e2) q⟩⟩
  | false => exact pe_to (pe_ifExp hc pe_no (h2 rfl)) fun σ H Q ⟨st, k⟩ => ⟨st, fun H1 e1 => iteF ⟨st.mono e1, fun v H2 e2 q => k v H2 (e1.trans e2) q⟩⟩

/-! ### argument lists, displays -/
theorem eva_nil : EvA X [] ρ [] := pa_to pa_nil fun σ H Q ⟨st, k⟩ => k [] H (Same.refl H) .nil
theorem eva_cons {Ps : List Pd} (h : Ev X e ρ P) (h2 : EvA X es ρ Ps) (hs : starEach (e :: es) X.env = (false, eval e X.env) :: starEach es X.env := by rfl) : EvA X (e :: es) ρ (P :: Ps) :=
  pa_to (pa_cons h h2 hs) fun σ H Q ⟨st, k⟩ => ⟨st, fun v H1 e1 q1 => ⟨st.mono e1, fun vs H2 e2 q2 => k _ H2 (e1.trans e2) (.cons (P.up e2 q1) q2)⟩⟩
theorem evd_nil : EvD X [] ρ [] := eva_nil
theorem evd_cons {d : PyData} {ds : List PyData} (h : Ev X e ρ (dat d)) (h2 : EvD X es ρ ds) (hs : starEach (e :: es) X.env = (false, eval e X.env) :: starEach es X.env := by rfl) : EvD X (e :: es) ρ (d :: ds) := eva_cons h h2 hs
theorem ev_tup {ds : List PyData} {n : Nat} (h : EvD X es ρ ds) (hz : ds.length ≤ sizeLine := by exact small1000' (Nat.le_of_ble_eq_true rfl)) : Ev X (.Tuple es n pos) ρ (pT ds) :=
  pe_to (pe_tup h) fun σ H Q ⟨st, k⟩ => ⟨st, fun vs H1 e1 q1 => ⟨by rw [q1.dats.length]; exact hz, fun q hq => k _ _ (e1.trans (same_new hq)) (.tup upd_same (q1.dats.mono (same_new hq)))⟩⟩
theorem ev_lst {ds : List PyData} (h : EvD X es ρ ds) (hz : ds.length ≤ sizeLine := by exact small1000' (Nat.le_of_ble_eq_true rfl)) : Ev X (.List es pos) ρ (pL ds) :=
  pe_to (pe_lst h) fun σ H Q ⟨st, k⟩ => ⟨st, fun vs H1 e1 q1 => ⟨by rw [q1.dats.length]; exact hz, fun q hq => k _ _ (e1.trans (same_new hq)) (.lst upd_same (q1.dats.mono (same_new hq)))⟩⟩
/-! ### subscripts, slices -/
theorem DrA.atI {H : Hp} {vs : List V} {ds : List PyData} {i : Int} {d : PyData} (q : DrA H vs ds) (h : L2.atI ds i = some d) : ∃ v, L2.atI vs i = some v ∧ Dr H v d := by
  unfold L2.atI at h ⊢
  rw [q.length]
  cases z : ixN ds.length i with
  | none =>
    rw [z] at h
    cases h
  | some j =>
    rw [z] at h
    exact q.get h
theorem ev_ixL {ds : List PyData} {d : PyData} (ha : Ev X a ρ (pL ds)) (hb : Ev X b ρ (pI i)) (h : L2.atI ds i = some d := by rfl) (hs : PlainIx b := by exact fun _ _ => rfl) : Ev X (.Subscript a b pos) ρ (dat d) :=
  pe_to (pe_ix ix_list ha hb hs) fun σ H Q ⟨st, k⟩ => ⟨st, fun u H1 e1 q1 => ⟨st.mono e1, fun v H2 e2 q2 => by
    obtain ⟨l, xs, rfl, hl, q⟩ := (q1.mono e2).ofL
    obtain ⟨w', h1, h2⟩ := q.atI h
    exact ⟨l, xs, i, w', rfl, q2.ofI, SqL.of hl, h1, k _ H2 (e1.trans e2) h2⟩⟩⟩
theorem ev_ixT {ds : List PyData} {d : PyData} (ha : Ev X a ρ (pT ds)) (hb : Ev X b ρ (pI i)) (h : L2.atI ds i = some d := by rfl) (hs : PlainIx b := by exact fun _ _ => rfl) : Ev X (.Subscript a b pos) ρ (dat d) :=
  pe_to (pe_ix ix_tup ha hb hs) fun σ H Q ⟨st, k⟩ => ⟨st, fun u H1 e1 q1 => ⟨st.mono e1, fun v H2 e2 q2 => by
    obtain ⟨l, xs, rfl, hl, q⟩ := (q1.mono e2).ofT
    obtain ⟨w', h1, h2⟩ := q.atI h
    exact ⟨l, xs, i, w', rfl, q2.ofI, SqT.of hl, h1, k _ H2 (e1.trans e2) h2⟩⟩⟩
theorem ev_ixS {y : Str} {ch : Nat} (ha : Ev X a ρ (pS y)) (hb : Ev X b ρ (pI i)) (hz : y.length ≤ sizeLine) (h : L2.atI y.cps.toList i = some ch) (hs : PlainIx b := by exact fun _ _ => rfl) : Ev X (.Subscript a b pos) ρ (pS ⟨#[ch]⟩) :=
  pe_to (pe_ix ix_str ha hb hs) fun σ H Q ⟨st, k⟩ => ⟨st, fun u H1 e1 q1 => ⟨st.mono e1, fun v H2 e2 q2 => ⟨y, i, ch, q1.ofS, q2.ofI, hz, h, k _ H2 (e1.trans e2) (.str _)⟩⟩⟩
end
end Cu
set_option Elab.async false
set_option linter.all false
set_option maxRecDepth 100000
set_option maxHeartbeats 2000000
namespace Cu
open PySem PySem.Spec PyProof.Rows L2

/-! ### targets -/
/-- beside these places nothing has changed -/
def Agree (is : List Nat) (σ σ' : L2.St) : Prop := σ'.length = σ.length ∧ ∀ j, j ∉ is → σ'[j]? = σ[j]?
theorem Agree.refl (is : List Nat) (σ : L2.St) : Agree is σ σ := ⟨rfl, fun _ _ => rfl⟩
theorem Agree.trans {is js : List Nat} {σ σ' σ'' : L2.St} (a : Agree is σ σ') (b : Agree js σ' σ'') : Agree (is ++ js) σ σ'' :=
  ⟨b.1.trans a.1, fun j h => (b.2 j fun z => h (List.mem_append_right _ z)).trans (a.2 j fun z => h (List.mem_append_left _ z))⟩
theorem Agree.set {σ : L2.St} {i : Nat} {v : V} : Agree [i] σ (σ.set i (some v)) := ⟨List.length_set, fun j h => by
  rw [List.getElem?_set_ne (fun e => h (by rw [e]; exact List.mem_singleton.mpr rfl))]⟩
def gTo (P : Pd) (ρ ρ' : Rho) (is : List Nat) : TG := fun v σ H Q => P.h H v ∧ StOk H σ ρ ∧ ∀ σ', StOk H σ' ρ' → Agree is σ σ' → Q σ' H
def gsTo (ds : List PyData) (ρ ρ' : Rho) (is : List Nat) : TGs := fun vs σ H Q => DrA H vs ds ∧ StOk H σ ρ ∧ ∀ σ', StOk H σ' ρ' → Agree is σ σ' → Q σ' H
abbrev Tg (X : Cx) (e : Expr) (P : Pd) (ρ ρ' : Rho) (is : List Nat) : Prop := PG X e (gTo P ρ ρ' is)
abbrev Tgs (X : Cx) (es : List Expr) (ds : List PyData) (ρ ρ' : Rho) (is : List Nat) : Prop := PGs X es (gsTo ds ρ ρ' is)
section
variable {X : Cx} {e a b c : Expr} {es : List Expr} {ρ ρ' ρ1 : Rho} {P P1 P2 P3 : Pd} {pos p p2 : Pos} {x : Str}
theorem pg_to {t t' : TG} (h : PG X e t) (w : ∀ v σ H Q, t' v σ H Q → t v σ H Q) : PG X e t' := ⟨fun pins s σ H v u Q I r q => h.run pins s σ H v u Q I r (w v σ H Q q)⟩
theorem pgs_to {t t' : TGs} (h : PGs X es t) (w : ∀ v σ H Q, t' v σ H Q → t v σ H Q) : PGs X es t' := ⟨fun pins s σ H v u Q I r q => h.run pins s σ H v u Q I r (w v σ H Q q)⟩
theorem tg_name (i : Nat) (hN : X.N.Nodup) (hi : X.N[i]? = some x := by rfl) (hx : Loc X.env.scope x := by first | exact Or.inl rfl | exact Or.inr rfl)
    (hf : X.fn x = true ∨ X.env.scope.names.lookup x = some .local := by first | exact .inl rfl | exact .inr rfl) : Tg X (.Name x pos) P ρ (rset ρ i (some P)) [i] :=
  pg_to (pg_name hN hi hx hf) fun v σ H Q ⟨q, st, k⟩ => k _ (st.set q) Agree.set
theorem tgs_nil : Tgs X [] [] ρ ρ [] := pgs_to pgs_nil fun vs σ H Q ⟨q, st, k⟩ => by
  cases q
  exact ⟨rfl, k σ st (Agree.refl _ _)⟩
theorem tgs_cons {d : PyData} {ds : List PyData} {is js : List Nat} (h : Tg X e (dat d) ρ ρ1 is) (h2 : Tgs X es ds ρ1 ρ' js) (hs : (assignEach (e :: es) X.env).map (·.2) = assign e X.env :: (assignEach es X.env).map (·.2) := by rfl) :
    Tgs X (e :: es) (d :: ds) ρ ρ' (is ++ js) :=
  pgs_to (pgs_cons h h2 hs) fun vs σ H Q ⟨q, st, k⟩ => by
    cases q with
    | cons q1 q2 => exact ⟨_, _, rfl, q1, st, fun σ1 st1 a1 => ⟨q2, st1, fun σ2 st2 a2 => k σ2 st2 (a1.trans a2)⟩⟩
theorem tg_tup {ds : List PyData} {is : List Nat} {n k : Nat} (h : Tgs X es ds ρ ρ' is) (hl : ds.length = n) (hc : X.calm = true := by rfl) (hn : (assignEach es X.env).length = n := by rfl) (hst : (assignEach es X.env).findIdx? (·.1) = none := by rfl) :
    Tg X (.Tuple es k pos) (pT ds) ρ ρ' is :=
  pg_to (pg_tup hc h hn hst) fun v σ H Q ⟨q, st, k⟩ => by
    obtain ⟨l, xs, rfl, hl', q2⟩ := q.ofT
    exact ⟨l, xs, rfl, SqT.of hl', q2.length.trans hl, q2, st, k⟩
theorem tg_lst {ds : List PyData} {is : List Nat} {n k : Nat} (h : Tgs X es ds ρ ρ' is) (hl : ds.length = n) (hc : X.calm = true := by rfl) (hn : (assignEach es X.env).length = n := by rfl) (hst : (assignEach es X.env).findIdx? (·.1) = none := by rfl) :
    Tg X (.Tuple es k pos) (pL ds) ρ ρ' is :=
  pg_to (pg_unl hc h hn hst) fun v σ H Q ⟨q, st, k⟩ => by
    obtain ⟨l, xs, rfl, hl', q2⟩ := q.ofL
    exact ⟨l, xs, rfl, SqL.of hl', q2.length.trans hl, q2, st, k⟩

/-! ### statements -/
inductive Out where
  | nx (ρ : Rho)
  | rt (P : Pd)
def tS (ρ : Rho) : Out → TS
  | .nx ρ' => fun D σ H => StOk H σ ρ ∧ ∀ σ' H', Same H H' → StOk H' σ' ρ' → D.nx σ' H'
  | .rt P => fun D σ H => StOk H σ ρ ∧ ∀ v H', Same H H' → P.h H' v → D.rt v H'
abbrev Sv (X : Cx) (st : Stmt) (ρ : Rho) (o : Out) : Prop := PS X st (tS ρ o)
abbrev Svs (X : Cx) (sts : List Stmt) (ρ : Rho) (o : Out) : Prop := PSs X sts (tS ρ o)
variable {stm : Stmt} {sts rest : List Stmt} {o : Out}
theorem ps_to {t t' : TS} (h : PS X stm t) (w : ∀ D σ H, t' D σ H → t D σ H) : PS X stm t' := ⟨fun pins s σ H D I q => h.run pins s σ H D I (w D σ H q)⟩
theorem pss_to {t t' : TS} (h : PSs X sts t) (w : ∀ D σ H, t' D σ H → t D σ H) : PSs X sts t' := ⟨fun pins s σ H D I q => h.run pins s σ H D I (w D σ H q)⟩
theorem tS_st {D : Ends} {σ : L2.St} {H : Hp} : ∀ {o : Out}, tS ρ o D σ H → StOk H σ ρ
  | .nx _, h => h.1
  | .rt _, h => h.1
/-- from an earlier heap and state -/
theorem tS_go {D : Ends} {σ σ' : L2.St} {H H' : Hp} (e : Same H H') (st : StOk H' σ' ρ') : ∀ {o : Out}, tS ρ o D σ H → tS ρ' o D σ' H'
  | .nx _, h => ⟨st, fun σ'' H'' e' q => h.2 σ'' H'' (e.trans e') q⟩
  | .rt _, h => ⟨st, fun v H'' e' q => h.2 v H'' (e.trans e') q⟩
theorem svs_nil : Svs X [] ρ (.nx ρ) := pss_to pss_nil fun D σ H ⟨st, k⟩ => k σ H (Same.refl H) st
theorem svs_cons (h1 : Sv X stm ρ (.nx ρ1)) (h2 : Svs X rest ρ1 o) : Svs X (stm :: rest) ρ o :=
  pss_to (pss_cons h1 h2) fun D σ H q => ⟨tS_st q, fun σ' H' e st' => tS_go e st' q⟩
theorem svs_stop (h1 : Sv X stm ρ (.rt P)) : Svs X (stm :: rest) ρ (.rt P) :=
  pss_to (pss_cons h1 pss_never) fun D σ H q => ⟨q.1, fun v H' e p => q.2 v H' e p⟩
theorem svs_one (h1 : Sv X stm ρ o) : Svs X [stm] ρ o := pss_one h1
/-- less is known -/
theorem svs_weak (h : Svs X sts ρ' o) (w : Weak ρ ρ') : Svs X sts ρ o := pss_to h fun D σ H q => tS_go (Same.refl H) ((tS_st q).weak w) q
theorem svs_weak_end {ρ2 : Rho} (h : Svs X sts ρ (.nx ρ')) (w : Weak ρ' ρ2) : Svs X sts ρ (.nx ρ2) := pss_to h fun D σ H q => ⟨q.1, fun σ' H' e st => q.2 σ' H' e (st.weak w)⟩
theorem sv_ret (h : Ev X e ρ P) : Sv X (.Return (some e) pos) ρ (.rt P) := ps_to (ps_ret h) fun D σ H ⟨st, k⟩ => ⟨st, k⟩
theorem sv_ret' (h : Ev X e ρ P1) (q : P1 = P) : Sv X (.Return (some e) pos) ρ (.rt P) := q ▸ sv_ret h
theorem sv_drop (h : Ev X e ρ P) (hs : swapsWith e none pos.line X.env = pure false := by rfl) : Sv X (.Expr e pos) ρ (.nx ρ) := ps_to (ps_expr h hs) fun D σ H ⟨st, k⟩ => ⟨st, fun v H' e _ => k σ H' e (st.mono e)⟩
theorem sv_set (i : Nat) {py : Pos} (hN : X.N.Nodup) (h : Ev X e ρ P) (hi : X.N[i]? = some x := by rfl) (hx : Loc X.env.scope x := by first | exact Or.inl rfl | exact Or.inr rfl)
    (hs : swapsWith e (some (.Name x py)) pos.line X.env = pure false := by rfl) (hf : X.fn x = true ∨ X.env.scope.names.lookup x = some .local := by first | exact .inl rfl | exact .inr rfl) :
    Sv X (.Assign [.Name x py] e pos) ρ (.nx (rset ρ i (some P))) :=
  ps_to (ps_set hN hi hx h hs hf) fun D σ H ⟨st, k⟩ => ⟨st, fun v H' e p => k _ H' e ((st.mono e).set p)⟩
theorem sv_asg {tg : Expr} {is : List Nat} (h : Ev X e ρ P) (hg : Tg X tg P ρ ρ' is) (hs : swapsWithSole [tg] e pos.line X.env = pure false := by rfl) (hw : swappedStores [tg] e X.env = pure none := by rfl)
    (h1 : (assignEach [tg] X.env).map (·.2) = [assign tg X.env] := by rfl) : Sv X (.Assign [tg] e pos) ρ (.nx ρ') :=
  ps_to (ps_asg h hg hs hw h1) fun D σ H ⟨st, k⟩ => ⟨st, fun v H' e p => ⟨p, st.mono e, fun σ' st' _ => k σ' H' e st'⟩⟩
/-- x, y = a, b: two locals -/
theorem sv_par (i j : Nat) {x y : Str} {a b : Expr} {px py pt : Pos} {kt k2 : Nat} {pt2 : Pos} (hN : X.N.Nodup) (ha : EvA X [a, b] ρ [P, P1]) (hij : i ≠ j) (hc : X.calm = true := by rfl) (hi : X.N[i]? = some x := by rfl) (hj : X.N[j]? = some y := by rfl)
    (hx : X.env.scope.names.lookup x = some .local := by rfl) (hy : X.env.scope.names.lookup y = some .local := by rfl)
    (hw : swappedStores [.Tuple [.Name x px, .Name y py] kt pt] (.Tuple [a, b] k2 pt2) X.env = pure (some [x, y]) := by rfl)
    (hs : swapsWithSole [.Tuple [.Name x px, .Name y py] kt pt] (.Tuple [a, b] k2 pt2) pos.line X.env = pure false := by rfl) :
    Sv X (.Assign [.Tuple [.Name x px, .Name y py] kt pt] (.Tuple [a, b] k2 pt2) pos) ρ (.nx (rset (rset ρ i (some P)) j (some P1))) :=
  ps_to (ps_par hc hN hi hj hij hx hy ha hw hs) fun D σ H ⟨st, k⟩ => ⟨st, fun vs H' e q => by
    cases q with
    | cons q1 q2 =>
      cases q2 with
      | cons q2 q3 =>
        cases q3
        exact ⟨_, _, rfl, k _ H' e (((st.mono e).set q1).set q2)⟩⟩
theorem sv_if {t : Bool} {f g : List Stmt} (hc : EvT X c ρ t) (h1 : t = true → Svs X f ρ o) (h2 : t = false → Svs X g ρ o) : Sv X (.If c f g pos) ρ o := by
  cases t with
  | true => exact ps_to (ps_if hc (h1 rfl) pss_never) fun D σ H q => ⟨tS_st q, fun H' e => iteT (tS_go e ((tS_st q).mono e) q)⟩
  | false => exact ps_to (ps_if hc pss_never (h2 rfl)) fun D σ H q => ⟨tS_st q, fun H' e => iteF (tS_go e ((tS_st q).mono e) q)⟩
/-- if c: return .. (else the rest) -/
theorem svs_if {t : Bool} {f : List Stmt} (hc : EvT X c ρ t) (h1 : t = true → Svs X f ρ (.rt P)) (h2 : t = false → Svs X rest ρ (.rt P)) : Svs X (.If c f [] pos :: rest) ρ (.rt P) := by
  cases t with
  | true => exact svs_stop (sv_if (t := true) hc (fun _ => h1 rfl) fun z => nomatch z)
  | false => exact svs_cons (sv_if (t := false) hc (fun z => nomatch z) fun _ => svs_nil) (h2 rfl)
/-- if c: .. that is not so: nothing -/
theorem sv_ifno {f : List Stmt} (hc : EvT X c ρ false) : Sv X (.If c f [] pos) ρ (.nx ρ) := sv_if hc (fun z => nomatch z) fun _ => svs_nil
/-- a while: n the turns that are left -/
theorem sv_while (hp : PassesOwn (model X.prog X.w) X.A X.env X.xe) (ρs : Nat → Rho) (n : Nat) (hw : Weak ρ (ρs 0)) (ht : ∀ i, i < n → EvT X c (ρs i) true) (hn : EvT X c (ρs n) false) (hb : ∀ i, i < n → Svs X sts (ρs i) (.nx (ρs (i + 1)))) :
    Sv X (.While c sts [] pos) ρ (.nx (ρs n)) := by
  have hc : PT X c (fun σ H Q => ∃ i, (i < n ∧ tEvT (ρs i) true σ H Q) ∨ (i = n ∧ tEvT (ρs i) false σ H Q)) := ⟨fun pins s σ H Q I q => by
    obtain ⟨i, ⟨hi, q⟩ | ⟨rfl, q⟩⟩ := q
    · exact (ht i hi).run pins s σ H Q I q
    · exact hn.run pins s σ H Q I q⟩
  have hB : PSs X sts (fun D σ H => ∃ i, i < n ∧ tS (ρs i) (.nx (ρs (i + 1))) D σ H) := ⟨fun pins s σ H D I q => by
    obtain ⟨i, hi, q⟩ := q
    exact (hb i hi).run pins s σ H D I q⟩
  refine ps_to (ps_while hp hc hB) fun D σ H ⟨st, k⟩ => ?_
  refine ⟨fun m σ' H' => ∃ i, i + m = n ∧ Same H H' ∧ StOk H' σ' (ρs i), ⟨n, 0, Nat.zero_add n, Same.refl H, st.weak hw⟩, ?_⟩
  rintro m σ' H' ⟨i, hi, e, st'⟩
  by_cases h0 : m = 0
  · subst h0
    have hi' : i = n := by omega
    subst hi'
    exact ⟨i, .inr ⟨rfl, st', fun H2 e2 => iteF (k σ' H2 (e.trans e2) (st'.mono e2))⟩⟩
  · refine ⟨i, .inl ⟨by omega, st', fun H2 e2 => iteT ⟨fun σ3 H3 => ∃ m', m' < m ∧ ∃ i, i + m' = n ∧ Same H H3 ∧ StOk H3 σ3 (ρs i), fun _ _ z => z, i, by omega, st'.mono e2, fun σ3 H3 e3 st3 => ⟨m - 1, by omega, i + 1, by omega, e.trans (e2.trans e3), st3⟩⟩⟩⟩
end
end Cu
set_option Elab.async false
set_option linter.all false
set_option maxRecDepth 100000
set_option maxHeartbeats 2000000
namespace Cu
open PySem PySem.Spec PyProof.Rows L2

/-! ### what is walked -/
/-- J hands out the data ds, as long as what G tracks stands -/
structure Yields (J : It) (G : Hp) (ds : List PyData) : Prop where
  go : ∀ (i : Nat) (H : Hp), Same G H → i < ds.length → J.go i H
  yld : ∀ (i : Nat) (H : Hp) (x : V) (H' : Hp), Same G H → i < ds.length → J.yld i H x H' → Same H H' ∧ ∃ d, ds[i]? = some d ∧ Dr H' x d
  stop : ∀ (H : Hp), Same G H → J.stop ds.length H
def tEvI (ρ : Rho) (ds : List PyData) : TI := fun σ H R => StOk H σ ρ ∧ ∀ J H', Same H H' → Yields J H' ds → R J H'
/-- of a name's list: whatever else changes meanwhile -/
def tEvJ (i : Nat) (ds : List PyData) : TI := fun σ H R => ∃ G v, Same G H ∧ σ[i]? = some (some v) ∧ Dr G v (.list ds) ∧ ∀ J, Yields J G ds → R J H
abbrev EvI (X : Cx) (tg e : Expr) (ρ : Rho) (ds : List PyData) : Prop := PI X tg e (tEvI ρ ds)
abbrev EvJ (X : Cx) (tg e : Expr) (i : Nat) (ds : List PyData) : Prop := PI X tg e (tEvJ i ds)
section
variable {X : Cx} {e a b c tg : Expr} {es : List Expr} {ρ ρ' ρ1 : Rho} {P P1 P2 P3 : Pd} {pos p p2 : Pos} {x : Str} {ds es' : List PyData}
theorem pi_to {t t' : TI} (h : PI X tg e t) (w : ∀ σ H R, t' σ H R → t σ H R) : PI X tg e t' := ⟨fun pins s σ H R I q => h.run pins s σ H R I (w σ H R q)⟩
theorem yields_list {K : PySem.W.Frag} {G : Hp} {l : Addr} {xs : List V} (hl : G l = some (.lst xs)) (q : DrA G xs ds) : Yields (Itl K l) G ds where
  go := fun i H e hi => ⟨xs, xs[i]'(by rw [q.length]; exact hi), SqL.of (e _ _ hl), List.getElem?_eq_getElem _⟩
  yld := fun i H x H' e hi ⟨e1, h⟩ => by
    subst e1
    obtain ⟨d, h1, h2⟩ := q.at (h xs (SqL.of (e _ _ hl)))
    exact ⟨Same.refl _, d, h1, h2.mono e⟩
  stop := fun H e => ⟨xs, SqL.of (e _ _ hl), by rw [q.length]; exact Nat.le_refl _⟩
theorem yields_tup {K : PySem.W.Frag} {G : Hp} {l : Addr} {xs : List V} (hl : G l = some (.tup xs)) (q : DrA G xs ds) : Yields (Itt K l) G ds where
  go := fun i H e hi => ⟨xs, xs[i]'(by rw [q.length]; exact hi), SqT.of (e _ _ hl), List.getElem?_eq_getElem _⟩
  yld := fun i H x H' e hi ⟨e1, h⟩ => by
    subst e1
    obtain ⟨d, h1, h2⟩ := q.at (h xs (SqT.of (e _ _ hl)))
    exact ⟨Same.refl _, d, h1, h2.mono e⟩
  stop := fun H e => ⟨xs, SqT.of (e _ _ hl), by rw [q.length]; exact Nat.le_refl _⟩
theorem evi_list (h : Ev X e ρ (pL ds)) : EvI X tg e ρ ds := pi_to (pi_list h) fun σ H R ⟨st, k⟩ => ⟨st, fun v H1 e1 q => by
  obtain ⟨l, xs, rfl, hl, q2⟩ := q.ofL
  exact ⟨l, rfl, ⟨xs, SqL.of hl⟩, k _ H1 e1 (yields_list hl q2)⟩⟩
theorem evi_tup (h : Ev X e ρ (pT ds)) : EvI X tg e ρ ds := pi_to (pi_tup h) fun σ H R ⟨st, k⟩ => ⟨st, fun v H1 e1 q => by
  obtain ⟨l, xs, rfl, hl, q2⟩ := q.ofT
  exact ⟨l, rfl, ⟨xs, SqT.of hl⟩, k _ H1 e1 (yields_tup hl q2)⟩⟩
/-- a name's list -/
theorem evj_list (i : Nat) (hN : X.N[i]? = some x := by rfl) (hv : Vis X.env.scope x := by first | exact Or.inl rfl | exact Or.inr (Or.inl rfl) | exact Or.inr (Or.inr rfl))
    (hd : (x == ("__debug__" : Str)) = false := by decide) (hcd : (x == ("__classdict__" : Str)) = false := by decide) : EvJ X tg (.Name x pos) i ds :=
  pi_to (pi_list (pe_var hN hv hd hcd)) fun σ H R ⟨G, v, e, e1, q, k⟩ => by
    obtain ⟨l, xs, rfl, hl, q2⟩ := Dr.ofL q
    exact ⟨_, e1, l, rfl, ⟨xs, SqL.of (e _ _ hl)⟩, k _ (yields_list hl q2)⟩
/-- a text's signs -/
def signs (y : Str) : List PyData := y.cps.toList.map fun ch => .str ⟨#[ch]⟩
theorem evi_str {y : Str} (h : Ev X e ρ (pS y)) : EvI X tg e ρ (signs y) := pi_to (pi_str h) fun σ H R ⟨st, k⟩ => ⟨st, fun v H1 e1 q => by
  obtain rfl := Dr.ofS q
  refine ⟨y, rfl, k _ H1 e1 ⟨fun i H' _ hi => ?_, fun i H' z H'' _ hi h => ?_, fun H' _ => ?_⟩⟩
  · have hi' : i < y.cps.size := by simpa [signs] using hi
    exact hi'
  · obtain ⟨e2, ch, e3, e4⟩ := h
    subst e2 e4
    refine ⟨Same.refl _, .str ⟨#[ch]⟩, ?_, .str _⟩
    unfold signs
    rw [List.getElem?_map, Array.getElem?_toList, e3]
    rfl
  · show y.cps.size ≤ (signs y).length
    simp [signs]⟩
/-- range(a, b), small -/
def rng (lo : Int) (n : Nat) : List PyData := (List.range n).map fun i => .int (lo + (i : Nat))
theorem rng_len (lo : Int) (n : Nat) : (rng lo n).length = n := by simp [rng]
theorem yields_rng {G : Hp} {lo : Int} {n : Nat} : Yields (Itr lo n) G (rng lo n) where
  go := fun i H _ hi => by
    rw [rng_len] at hi
    exact hi
  yld := fun i H z H' _ hi ⟨e1, e2⟩ => by
    rw [rng_len] at hi
    subst e1 e2
    refine ⟨Same.refl _, .int (lo + i), ?_, .int _⟩
    unfold rng
    rw [List.getElem?_map, List.getElem?_range hi]
    rfl
  stop := fun H _ => by
    show n ≤ _
    rw [rng_len]
    exact Nat.le_refl _
theorem PsOk.int1 {H : Hp} {vs : List V} {i : Int} (h : PsOk H vs [pI i]) : vs = [.int i] := by
  cases h with
  | cons h1 h2 =>
    cases h2
    rw [Dr.ofI h1]
theorem PsOk.int2 {H : Hp} {vs : List V} {i j : Int} (h : PsOk H vs [pI i, pI j]) : vs = [.int i, .int j] := by
  cases h with
  | cons h1 h2 =>
    rw [Dr.ofI h1, h2.int1]
theorem PsOk.int3 {H : Hp} {vs : List V} {i j k : Int} (h : PsOk H vs [pI i, pI j, pI k]) : vs = [.int i, .int j, .int k] := by
  cases h with
  | cons h1 h2 =>
    rw [Dr.ofI h1, h2.int2]
theorem evi_rng1 {n : Int} (hm : X.mg "range" = none) (h : Ev X a ρ (pI n)) (hn : 0 ≤ n ∧ n < 2 ^ 62) (hg : Gl X "range" := by rfl) (hs : starEach [a] X.env = [(false, eval a X.env)] := by rfl) :
    EvI X tg (.Call (.Name "range" p) [a] [] pos) ρ (rng 0 n.toNat) :=
  pi_to (pi_range1 hg hm (eva_cons h eva_nil hs) hs) fun σ H R ⟨st, k⟩ => ⟨st, fun vs H1 e1 q => ⟨n, q.int1, by omega, hn.2, k _ H1 e1 yields_rng⟩⟩
theorem evi_rng2 {lo n : Int} (hm : X.mg "range" = none) (h : Ev X a ρ (pI lo)) (h2 : Ev X b ρ (pI n)) (hn : -(2 ^ 62) ≤ lo ∧ lo < 2 ^ 62 ∧ -(2 ^ 62) ≤ n ∧ n < 2 ^ 62) (hg : Gl X "range" := by rfl)
    (hs : starEach [a, b] X.env = [(false, eval a X.env), (false, eval b X.env)] := by rfl) (hs2 : starEach [b] X.env = [(false, eval b X.env)] := by rfl) :
    EvI X tg (.Call (.Name "range" p) [a, b] [] pos) ρ (rng lo (n - lo).toNat) :=
  pi_to (pi_range2 hg hm (eva_cons h (eva_cons h2 eva_nil hs2) (by rw [hs, hs2])) hs hs2) fun σ H R ⟨st, k⟩ => ⟨st, fun vs H1 e1 q => ⟨lo, n, q.int2, hn, k _ H1 e1 yields_rng⟩⟩
/-- zip of two tuples of one length -/
def zipD (xs ys : List PyData) : List PyData := (xs.zip ys).map fun q => .tuple [q.1, q.2]
theorem evi_zipT {elts : List Expr} {kk : Nat} {tpos : Pos} {xs ys : List PyData} (hm : X.mg "zip" = none) (h : Ev X a ρ (pT xs)) (h2 : Ev X b ρ (pT ys)) (hl : xs.length = ys.length) (hg : Gl X "zip" := by rfl)
    (hs : starEach [a, b] X.env = (false, eval a X.env) :: starEach [b] X.env := by rfl) (hs2 : starEach [b] X.env = (false, eval b X.env) :: starEach [] X.env := by rfl) (hpl : (backTo pos (starEach [b] X.env)).any (·.1) = false := by rfl) :
    EvI X (.Tuple elts kk tpos) (.Call (.Name "zip" p) [a, b] [] pos) ρ (zipD xs ys) :=
  pi_to (RZ.pi_zipA hg hm (eva_cons h (eva_cons h2 eva_nil hs2) hs) hs hpl) fun σ H R ⟨st, k⟩ => ⟨st, fun vs H1 e1 q => by
    cases q with
    | cons q1 q2 =>
      cases q2 with
      | cons q2 q3 =>
        cases q3
        obtain ⟨l, us, rfl, hu, qu⟩ := Dr.ofT q1
        obtain ⟨m, ws, rfl, hw, qw⟩ := Dr.ofT q2
        refine ⟨l, m, us, ws, rfl, .inr ⟨SqT.of hu, SqT.of hw, k _ H1 e1 ?_⟩⟩
        have lz : (zipD xs ys).length = xs.length := by simp [zipD, hl]
        refine ⟨fun i H' e hi => ?_, fun i H' z H'' e hi h => ?_, fun H' e => ?_⟩
        · rw [lz] at hi
          exact ⟨us, ws, us[i]'(by rw [qu.length]; exact hi), ws[i]'(by rw [qw.length]; omega), SqT.of (e _ _ hu), SqT.of (e _ _ hw), List.getElem?_eq_getElem _, List.getElem?_eq_getElem _⟩
        · obtain ⟨T, u, w', rfl, hT, rfl, h1, h2⟩ := h
          obtain ⟨d1, g1, r1⟩ := qu.at (h1 us (SqT.of (e _ _ hu)))
          obtain ⟨d2, g2, r2⟩ := qw.at (h2 ws (SqT.of (e _ _ hw)))
          refine ⟨same_new hT, .tuple [d1, d2], ?_, .tup upd_same (.cons ((r1.mono e).mono (same_new hT)) (.cons ((r2.mono e).mono (same_new hT)) .nil))⟩
          unfold zipD
          have e3 : (xs.zip ys)[i]? = some (d1, d2) := List.getElem?_zip_eq_some.mpr ⟨g1, g2⟩
          rw [List.getElem?_map, e3]
          rfl
        · rw [lz]
          exact ⟨us, ws, SqT.of (e _ _ hu), SqT.of (e _ _ hw), .inl (by rw [qu.length]; exact Nat.le_refl _)⟩⟩
/-- enumerate of a list -/
def enumD (xs : List PyData) : List PyData := (xs.zipIdx).map fun q => .tuple [.int (q.2 : Nat), q.1]
theorem evi_enum {elts : List Expr} {kk : Nat} {tpos : Pos} {xs : List PyData} (hm : X.mg "enumerate" = none) (h : Ev X a ρ (pL xs)) (hg : Gl X "enumerate" := by rfl) (hs : starEach [a] X.env = [(false, eval a X.env)] := by rfl) :
    EvI X (.Tuple elts kk tpos) (.Call (.Name "enumerate" p) [a] [] pos) ρ (enumD xs) :=
  pi_to (pi_enum hg hm (eva_cons h eva_nil hs) hs) fun σ H R ⟨st, k⟩ => ⟨st, fun vs H1 e1 q => by
    cases q with
    | cons q1 q2 =>
      cases q2
      obtain ⟨l, us, rfl, hu, qu⟩ := Dr.ofL q1
      refine ⟨l, us, rfl, SqL.of hu, k _ H1 e1 ?_⟩
      have lz : (enumD xs).length = xs.length := by simp [enumD]
      refine ⟨fun i H' e hi => ?_, fun i H' z H'' e hi h => ?_, fun H' e => ?_⟩
      · rw [lz] at hi
        exact ⟨us, us[i]'(by rw [qu.length]; exact hi), SqL.of (e _ _ hu), List.getElem?_eq_getElem _⟩
      · obtain ⟨T, u, rfl, hT, rfl, h1⟩ := h
        obtain ⟨d1, g1, r1⟩ := qu.at (h1 us (SqL.of (e _ _ hu)))
        refine ⟨same_new hT, .tuple [.int (i : Nat), d1], ?_, .tup upd_same (.cons (.int _) (.cons ((r1.mono e).mono (same_new hT)) .nil))⟩
        unfold enumD
        rw [List.getElem?_map, List.getElem?_zipIdx, g1, Nat.zero_add]
        rfl
      · rw [lz]
        exact ⟨us, SqL.of (e _ _ hu), by rw [qu.length]; exact Nat.le_refl _⟩⟩

/-! ### for -/
theorem sv_for {sts : List Stmt} {ds : List PyData} (hp : PassesOwn (model X.prog X.w) X.A X.env X.xe) (hi : EvI X tg e ρ ds) (ρs ρt : Nat → Rho) (is : Nat → List Nat) (hw : Weak ρ (ρs 0))
    (hg : ∀ i d, ds[i]? = some d → Tg X tg (dat d) (ρs i) (ρt i) (is i)) (hb : ∀ i d, ds[i]? = some d → Svs X sts (ρt i) (.nx (ρs (i + 1)))) (hc : X.calm = true := by rfl) (hs : ∀ x, foldedSetIterable e X.env x = pure x := by intro _; rfl) :
    Sv X (.For tg e sts [] pos) ρ (.nx (ρs ds.length)) := by
  have hG : PG X tg (fun v σ H Q => ∃ i d, ds[i]? = some d ∧ gTo (dat d) (ρs i) (ρt i) (is i) v σ H Q) := ⟨fun pins s σ H v u Q I r q => by
    obtain ⟨i, d, hd, q⟩ := q
    exact (hg i d hd).run pins s σ H v u Q I r q⟩
  have hB : PSs X sts (fun D σ H => ∃ i d, ds[i]? = some d ∧ tS (ρt i) (.nx (ρs (i + 1))) D σ H) := ⟨fun pins s σ H D I q => by
    obtain ⟨i, d, hd, q⟩ := q
    exact (hb i d hd).run pins s σ H D I q⟩
  refine ps_to (ps_for hp hc hi hG hB hs) fun D σ H ⟨st, k⟩ => ⟨st, fun J H1 e1 y => ?_⟩
  refine ⟨fun i m σ' H' => i + m = ds.length ∧ Same H1 H' ∧ StOk H' σ' (ρs i), ⟨ds.length, Nat.zero_add _, Same.refl _, (st.mono e1).weak hw⟩, ?_⟩
  rintro i m σ' H' ⟨hi, e, st'⟩
  by_cases h0 : i < ds.length
  · refine .inr ⟨y.go i H' e h0, fun σ3 H3 => Same H1 H3 ∧ StOk H3 σ3 (ρs (i + 1)), fun σ3 H3 q => ⟨m - 1, by omega, by omega, q.1, q.2⟩, fun v H2 hy => ?_⟩
    obtain ⟨e2, d, hd, r⟩ := y.yld i H' v H2 e h0 hy
    exact ⟨i, d, hd, r, st'.mono e2, fun σ3 st3 _ => ⟨i, d, hd, st3, fun σ4 H4 e4 st4 => ⟨e.trans (e2.trans e4), st4⟩⟩⟩
  · have hi' : i = ds.length := by omega
    subst hi'
    exact .inl ⟨y.stop H' e, k σ' H' (e1.trans e) st'⟩

/-! ### comprehensions -/
def rwipe (ρ : Rho) : List Nat → Rho
  | [] => ρ
  | v :: vs => rset (rwipe ρ vs) v none
theorem StOk.wipe {H : Hp} {σ : L2.St} (h : StOk H σ ρ) : ∀ vs : List Nat, StOk H (wipe σ vs) (rwipe ρ vs)
  | [] => h
  | v :: vs => (h.wipe vs).drop
theorem wipe_at {σ : L2.St} : ∀ {vs : List Nat} {j : Nat}, (wipe σ vs)[j]? = if j ∈ vs ∧ j < σ.length then some none else σ[j]?
  | [], j => by simp [wipe]
  | v :: vs, j => by
    have ih := wipe_at (σ := σ) (vs := vs) (j := j)
    have hl := wipe_length σ vs
    unfold wipe
    by_cases hv : v = j
    · subst hv
      by_cases hj : v < σ.length
      · rw [List.getElem?_set_self (by rw [hl]; exact hj), if_pos ⟨List.mem_cons_self, hj⟩]
      · rw [List.getElem?_eq_none (by rw [List.length_set, hl]; omega), if_neg (fun z => hj z.2), List.getElem?_eq_none (by omega)]
    · rw [List.getElem?_set_ne hv, ih]
      have hm : (j ∈ v :: vs) ↔ j ∈ vs := ⟨fun z => (List.mem_cons.mp z).resolve_left (fun q => hv q.symm), List.mem_cons_of_mem _⟩
      by_cases c : j ∈ vs ∧ j < σ.length
      · rw [if_pos c, if_pos ⟨hm.mpr c.1, c.2⟩]
      · rw [if_neg c, if_neg (fun z => c ⟨hm.mp z.1, z.2⟩)]
theorem wipe_agree {σ σ' : L2.St} {is vs : List Nat} (a : Agree is (wipe σ vs) σ') (h : ∀ i ∈ is, i ∈ vs) : wipe σ' vs = wipe σ vs := by
  have hl : σ'.length = σ.length := a.1.trans (wipe_length σ vs)
  apply List.ext_getElem?
  intro j
  rw [wipe_at, wipe_at, hl]
  by_cases c : j ∈ vs ∧ j < σ.length
  · rw [if_pos c, if_pos c]
  · rw [if_neg c, if_neg c]
    by_cases hj : j ∈ is
    · have hv := h j hj
      have hb : ¬ j < σ.length := fun z => c ⟨hv, z⟩
      rw [List.getElem?_eq_none (by omega), List.getElem?_eq_none (by omega)]
    · rw [a.2 j hj, wipe_at, if_neg c]
abbrev EvTs (X : Cx) (ifs : List Expr) (ρ : Rho) (b : Bool) : Prop := PTs X ifs (tEvT ρ b)
theorem evts_nil : EvTs X [] ρ true := ⟨fun pins s σ H Q I q => pts_nil.run pins s σ H Q I (q.2 H (Same.refl H))⟩
theorem evts_one {t : Bool} (h : EvT X c ρ t) : EvTs X [c] ρ t := pts_one h
/-- the reading of a comprehension: D collects what passes -/
theorem tLc_of {α : Type} {xs : List α} {enc : α → PyData} {vs is : List Nat} {ρx : α → Rho} {pr : α → Bool} {gd : α → PyData} (hf : ∀ x ∈ xs, flat (gd x) = true) (his : ∀ i ∈ is, i ∈ vs) (hz : xs.length ≤ 1000) (σ : L2.St) (H : Hp) (Q : VK)
    (q : StOk H σ ρ ∧ ∀ v H', Same H H' → Dr H' v (.list ((xs.filter pr).map gd)) → Q v H') :
    tLc (tEvI ρ (xs.map enc)) (fun v σ H Q => ∃ x, x ∈ xs ∧ gTo (dat (enc x)) (rwipe ρ vs) (ρx x) is v σ H Q) (fun σ H Q => ∃ x, x ∈ xs ∧ tEvT (ρx x) (pr x) σ H Q)
      (fun σ H Q => ∃ x, (x ∈ xs ∧ pr x = true) ∧ tEv (ρx x) (dat (gd x)) σ H Q) vs σ H Q := by
  obtain ⟨st, k⟩ := q
  refine ⟨st, fun J H1 e1 y D hD => ?_⟩
  refine ⟨fun i m H' => i + m = xs.length ∧ Same H1 H' ∧ ∃ acc, H' D = some (.lst acc) ∧ DrA H' acc (((xs.take i).filter pr).map gd), ⟨xs.length, Nat.zero_add _, same_new hD, [], upd_same, .nil⟩, ?_⟩
  rintro i m H' ⟨hi, e, acc, hacc, qa⟩
  have ly : (xs.map enc).length = xs.length := List.length_map _
  by_cases h0 : i < xs.length
  · have hx : xs[i]? = some xs[i] := List.getElem?_eq_getElem h0
    have hmem : xs[i] ∈ xs := List.getElem_mem h0
    refine .inr ⟨y.go i H' e (by rw [ly]; exact h0), fun H3 => Same H1 H3 ∧ ∃ acc, H3 D = some (.lst acc) ∧ DrA H3 acc (((xs.take (i + 1)).filter pr).map gd), fun H3 q3 => ⟨m - 1, by omega, by omega, q3⟩, fun v H2 hy => ?_⟩
    obtain ⟨e2, d, hd, r⟩ := y.yld i H' v H2 e (by rw [ly]; exact h0) hy
    rw [List.getElem?_map, hx] at hd
    cases hd
    have stw : StOk H2 (wipe σ vs) (rwipe ρ vs) := ((st.mono e1).mono (e.trans e2)).wipe vs
    have et : xs.take (i + 1) = xs.take i ++ [xs[i]] := by
      rw [List.take_add_one, hx]
      rfl
    refine ⟨xs[i], hmem, r, stw, fun σ2 st2 ag => ⟨wipe_agree ag his, xs[i], hmem, st2, fun H3 e3 => ?_⟩⟩
    have qa3 := (qa.mono e2).mono e3
    have hacc3 := e3 _ _ (e2 _ _ hacc)
    cases hp : pr xs[i] with
    | false =>
      refine iteF ⟨e.trans (e2.trans e3), acc, hacc3, ?_⟩
      rw [et, List.filter_append, List.map_append, List.filter_cons, if_neg (by rw [hp]; decide), List.filter_nil, List.map_nil, List.append_nil]
      exact qa3
    | true =>
      refine iteT ⟨xs[i], ⟨hmem, hp⟩, st2.mono e3, fun z H4 e4 r4 => ⟨acc, e4 _ _ hacc3, ?_, ?_⟩⟩
      · rw [qa.length, List.length_map]
        refine small1000 (Nat.le_trans (List.length_filter_le _ _) ?_)
        rw [List.length_take]
        omega
      · have hD1 : ∀ b o, H1 b = some o → b ≠ D := fun b o hb => ne_of_none hb hD
        have hacc4 := e4 _ _ hacc3
        refine ⟨fun b o hb => ?_, _, upd_same, ?_⟩
        · rw [upd_ne (hD1 b o hb)]
          exact e4 _ _ (e3 _ _ (e2 _ _ (e _ _ hb)))
        · rw [et, List.filter_append, List.map_append, List.filter_cons, if_pos hp, List.filter_nil]
          refine ((qa3.mono e4).upd hacc4 (flatA_all fun d hd => ?_)).append (.one (Dr.upd hacc4 (hf _ hmem) r4))
          obtain ⟨w', hw', rfl⟩ := List.mem_map.mp hd
          exact hf w' (List.mem_of_mem_take (List.mem_filter.mp hw').1)
  · have hi' : i = xs.length := by omega
    subst hi'
    refine .inl ⟨?_, ?_⟩
    · rw [← ly]
      exact y.stop H' e
    · rw [List.take_length] at qa
      exact k _ H' (e1.trans e) (.lst hacc qa)
abbrev BlkP (X : Cx) (scope : Scope) (F : Cx → Prop) : Prop := ∀ (s : Shared) (H : Hp) (C : Addr) (cl : List (Str × Addr)) (fp : List Addr), F (X.blk s H scope (compEnvC scope cl C X.env) fp)
section
variable {α : Type} {xs : List α} {enc : α → PyData} {is : List Nat} {ρx : α → Rho} {pr : α → Bool} {gd : α → PyData} {elt iter : Expr} {ifs : List Expr} {scope : Scope} {own : List (Str × Nat)}
theorem lcG (hg : ∀ x ∈ xs, BlkP X scope fun Y => Tg Y tg (dat (enc x)) (rwipe ρ (own.map (·.2))) (ρx x) is) : BlkP X scope fun Y => PG Y tg (fun v σ H Q => ∃ x, x ∈ xs ∧ gTo (dat (enc x)) (rwipe ρ (own.map (·.2))) (ρx x) is v σ H Q) :=
  fun s H C cl fp => ⟨fun pins s' σ H' v u Q I r q => by
    obtain ⟨x, hx, q⟩ := q
    exact (hg x hx s H C cl fp).run pins s' σ H' v u Q I r q⟩
theorem lcT (ht : ∀ x ∈ xs, BlkP X scope fun Y => EvTs Y ifs (ρx x) (pr x)) : BlkP X scope fun Y => PTs Y ifs (fun σ H Q => ∃ x, x ∈ xs ∧ tEvT (ρx x) (pr x) σ H Q) :=
  fun s H C cl fp => ⟨fun pins s' σ H' Q I q => by
    obtain ⟨x, hx, q⟩ := q
    exact (ht x hx s H C cl fp).run pins s' σ H' Q I q⟩
theorem lcE (he : ∀ x ∈ xs, pr x = true → BlkP X scope fun Y => Ev Y elt (ρx x) (dat (gd x))) : BlkP X scope fun Y => PE Y elt (fun σ H Q => ∃ x, (x ∈ xs ∧ pr x = true) ∧ tEv (ρx x) (dat (gd x)) σ H Q) :=
  fun s H C cl fp => ⟨fun pins s' σ H' Q I q => by
    obtain ⟨x, hx, q⟩ := q
    exact (he x hx.1 hx.2 s H C cl fp).run pins s' σ H' Q I q⟩
/-- [elt for tg in iter if ..] as a value: own names the block's own variables with their places -/
theorem ev_lc (own : List (Str × Nat)) (hN : X.N.Nodup) (ok : BlkOk X.N X.env.scope scope own) (hi : EvI X tg iter ρ (xs.map enc)) (his : ∀ i ∈ is, i ∈ own.map (·.2))
    (hg : ∀ x ∈ xs, BlkP X scope fun Y => Tg Y tg (dat (enc x)) (rwipe ρ (own.map (·.2))) (ρx x) is) (ht : ∀ x ∈ xs, BlkP X scope fun Y => EvTs Y ifs (ρx x) (pr x))
    (he : ∀ x ∈ xs, pr x = true → BlkP X scope fun Y => Ev Y elt (ρx x) (dat (gd x))) (hf : ∀ x ∈ xs, flat (gd x) = true) (hz : xs.length ≤ 1000) (hc : X.calm = true := by rfl) (hs : ∀ x, foldedSetIterable iter X.env x = pure x := by intro _; rfl) :
    Ev X (.ListComp elt [⟨tg, iter, ifs, 0⟩] scope pos) ρ (pL ((xs.filter pr).map gd)) :=
  pe_to (pe_lc hc hN hi ok (lcG hg) (lcT ht) (lcE he) hs) fun σ H Q q => tLc_of hf his hz σ H Q q
theorem sv_setLc (i : Nat) {y : Str} {py spos : Pos} (own : List (Str × Nat)) (hN : X.N.Nodup) (ok : BlkOk X.N X.env.scope scope own) (hi : EvI X tg iter ρ (xs.map enc)) (his : ∀ i ∈ is, i ∈ own.map (·.2))
    (hg : ∀ x ∈ xs, BlkP X scope fun Y => Tg Y tg (dat (enc x)) (rwipe ρ (own.map (·.2))) (ρx x) is) (ht : ∀ x ∈ xs, BlkP X scope fun Y => EvTs Y ifs (ρx x) (pr x))
    (he : ∀ x ∈ xs, pr x = true → BlkP X scope fun Y => Ev Y elt (ρx x) (dat (gd x))) (hf : ∀ x ∈ xs, flat (gd x) = true) (hz : xs.length ≤ 1000)
    (hsw : swapsWith (.ListComp elt [⟨tg, iter, ifs, 0⟩] scope pos) (some (.Name y py)) spos.line X.env = pure true) (hc : X.calm = true := by rfl) (hy : X.N[i]? = some y := by rfl) (hyl : X.env.scope.names.lookup y = some .local := by rfl)
    (hs : ∀ x, foldedSetIterable iter X.env x = pure x := by intro _; rfl) :
    Sv X (.Assign [.Name y py] (.ListComp elt [⟨tg, iter, ifs, 0⟩] scope pos) spos) ρ (.nx (rset ρ i (some (pL ((xs.filter pr).map gd))))) :=
  ps_to (ps_setLc hc hN hy hyl hsw hi ok (lcG hg) (lcT ht) (lcE he) hs) fun D σ H ⟨st, k⟩ => tLc_of hf his hz σ H _ ⟨st, fun v H' e q => k _ H' e ((st.mono e).set (P := pL _) q)⟩
end
theorem tYes_go {σ : L2.St} {H : Hp} {A : Bool → Hp → Prop} (h : A true H) : tYes σ H A := h
/-- two clauses, each with a name: the second source a name's list -/
theorem tLc2_of {α β : Type} {xs : List α} {ys : List β} {ex : α → PyData} {ey : β → PyData} {vs : List Nat} {i j m : Nat} {gd : α → β → PyData} (hf : ∀ x ∈ xs, ∀ y ∈ ys, flat (gd x y) = true) (hx : ∀ x ∈ xs, flat (ex x) = true)
    (hi : i ∈ vs) (hm : m ∉ vs) (hij : m ≠ i) (hmj : m ≠ j) (hr : rat ρ m = some (pL (ys.map ey))) (hz : xs.length * ys.length ≤ 1000) (σ : L2.St) (H : Hp) (Q : VK)
    (q : StOk H σ ρ ∧ ∀ v H', Same H H' → Dr H' v (.list (xs.flatMap fun x => ys.map (gd x))) → Q v H') :
    tLc2 (tEvI ρ (xs.map ex)) (gName i) tYes (tEvJ m (ys.map ey)) (gName j) tYes
      (fun σ H Q => ∃ x y, (x ∈ xs ∧ y ∈ ys) ∧ tEv (rset (rset (rset (rwipe ρ vs) i (some (dat (ex x)))) j none) j (some (dat (ey y)))) (dat (gd x y)) σ H Q) vs [j] σ H Q := by
  obtain ⟨st, k⟩ := q
  refine ⟨st, fun J H1 e1 y D hD => ?_⟩
  have st1 := st.mono e1
  have hD1 : ∀ b o, H1 b = some o → b ≠ D := fun b o hb => ne_of_none hb hD
  refine ⟨fun n t H' => n + t = xs.length ∧ Same H1 H' ∧ ∃ acc, H' D = some (.lst acc) ∧ DrA H' acc ((xs.take n).flatMap fun x => ys.map (gd x)), ⟨xs.length, Nat.zero_add _, same_new hD, [], upd_same, .nil⟩, ?_⟩
  rintro n t H' ⟨hn, e, acc, hacc, qa⟩
  have ly : (xs.map ex).length = xs.length := List.length_map _
  by_cases h0 : n < xs.length
  · have hxn : xs[n]? = some xs[n] := List.getElem?_eq_getElem h0
    have hmem : xs[n] ∈ xs := List.getElem_mem h0
    have et : xs.take (n + 1) = xs.take n ++ [xs[n]] := by
      rw [List.take_add_one, hxn]
      rfl
    refine .inr ⟨y.go n H' e (by rw [ly]; exact h0), fun H3 => Same H1 H3 ∧ ∃ acc, H3 D = some (.lst acc) ∧ DrA H3 acc ((xs.take (n + 1)).flatMap fun x => ys.map (gd x)), fun H3 q3 => ⟨t - 1, by omega, by omega, q3⟩, fun v H2 hy => ?_⟩
    obtain ⟨e2, d, hd, r⟩ := y.yld n H' v H2 e (by rw [ly]; exact h0) hy
    rw [List.getElem?_map, hxn] at hd
    cases hd
    have ag1 : wipe ((wipe σ vs).set i (some v)) vs = wipe σ vs := wipe_agree (is := [i]) Agree.set fun z hz => by
      rw [List.mem_singleton.mp hz]
      exact hi
    refine ⟨ag1, tYes_go ?_⟩
    rw [if_pos rfl]
    obtain ⟨u, hu, ru⟩ := st1.get hr
    have hu' : ((wipe σ vs).set i (some v))[m]? = some (some u) := by
      rw [List.getElem?_set_ne (Ne.symm hij), wipe_at, if_neg fun z => hm z.1]
      exact hu
    refine ⟨H1, u, e.trans e2, hu', ru, fun J1 y1 => ?_⟩
    have lz : (ys.map ey).length = ys.length := List.length_map _
    refine ⟨fun n1 t1 H3 => n1 + t1 = ys.length ∧ Same H1 H3 ∧ Dr H3 v (ex xs[n]) ∧ ∃ acc, H3 D = some (.lst acc) ∧ DrA H3 acc (((xs.take n).flatMap fun x => ys.map (gd x)) ++ (ys.take n1).map (gd xs[n])),
      ⟨ys.length, Nat.zero_add _, e.trans e2, r, acc, e2 _ _ hacc, by rw [List.take_zero, List.map_nil, List.append_nil]; exact qa.mono e2⟩, ?_⟩
    rintro n1 t1 H3 ⟨hn1, e3, rv, acc3, hacc3, qa3⟩
    by_cases h1 : n1 < ys.length
    · have hyn : ys[n1]? = some ys[n1] := List.getElem?_eq_getElem h1
      have hmem1 : ys[n1] ∈ ys := List.getElem_mem h1
      have et1 : ys.take (n1 + 1) = ys.take n1 ++ [ys[n1]] := by
        rw [List.take_add_one, hyn]
        rfl
      refine .inr ⟨y1.go n1 H3 e3 (by rw [lz]; exact h1), fun H5 => Same H1 H5 ∧ Dr H5 v (ex xs[n]) ∧ ∃ acc, H5 D = some (.lst acc) ∧ DrA H5 acc (((xs.take n).flatMap fun x => ys.map (gd x)) ++ (ys.take (n1 + 1)).map (gd xs[n])),
        fun H5 q5 => ⟨t1 - 1, by omega, by omega, q5⟩, fun v1 H4 hy1 => ?_⟩
      obtain ⟨e4, d1, hd1, r1⟩ := y1.yld n1 H3 v1 H4 e3 (by rw [lz]; exact h1) hy1
      rw [List.getElem?_map, hyn] at hd1
      cases hd1
      have ag2 : wipe ((wipe ((wipe σ vs).set i (some v)) [j]).set j (some v1)) [j] = wipe ((wipe σ vs).set i (some v)) [j] := wipe_agree (is := [j]) Agree.set fun z hz => hz
      refine ⟨ag2, tYes_go ?_⟩
      rw [if_pos rfl]
      refine ⟨xs[n], ys[n1], ⟨hmem, hmem1⟩, ?_, fun z H5 e5 r5 => ?_⟩
      · have s1 : StOk H4 (wipe σ vs) (rwipe ρ vs) := (st1.mono (e3.trans e4)).wipe vs
        have s2 := s1.set (P := dat (ex xs[n])) (i := i) (rv.mono e4)
        exact (s2.drop (i := j)).set (P := dat (ey ys[n1])) (i := j) r1
      · have hacc5 := e5 _ _ (e4 _ _ hacc3)
        refine ⟨acc3, hacc5, ?_, fun b o hb => ?_, ?_, _, upd_same, ?_⟩
        · rw [qa3.length]
          refine small1000 (Nat.le_trans ?_ hz)
          rw [List.length_append, List.length_map, List.length_take, List.length_flatMap]
          have hs : ((xs.take n).map fun x => (ys.map (gd x)).length).sum = n * ys.length := by
            have hc : ((xs.take n).map fun x => (ys.map (gd x)).length) = List.replicate n ys.length := by
              refine List.eq_replicate_iff.mpr ⟨by rw [List.length_map, List.length_take]; omega, fun b hb => ?_⟩
              obtain ⟨x, _, rfl⟩ := List.mem_map.mp hb
              exact List.length_map _
            rw [hc, List.sum_replicate_nat]
          rw [hs]
          have : (n + 1) * ys.length ≤ xs.length * ys.length := Nat.mul_le_mul_right _ h0
          rw [Nat.add_mul] at this
          omega
        · rw [upd_ne (hD1 b o hb)]
          exact e5 _ _ (e4 _ _ (e3 _ _ hb))
        · exact Dr.upd hacc5 (hx _ hmem) ((rv.mono e4).mono e5)
        · rw [et1, List.map_append, ← List.append_assoc]
          refine (((qa3.mono e4).mono e5).upd hacc5 (flatA_all fun d hd => ?_)).append (.one (Dr.upd hacc5 (hf _ hmem _ hmem1) r5))
          rcases List.mem_append.mp hd with hd | hd
          · obtain ⟨x', hx', hd⟩ := List.mem_flatMap.mp hd
            obtain ⟨y', hy', rfl⟩ := List.mem_map.mp hd
            exact hf _ (List.mem_of_mem_take hx') _ hy'
          · obtain ⟨y', hy', rfl⟩ := List.mem_map.mp hd
            exact hf _ hmem _ (List.mem_of_mem_take hy')
    · have hn1' : n1 = ys.length := by omega
      subst hn1'
      refine .inl ⟨?_, e3, acc3, hacc3, ?_⟩
      · rw [← lz]
        exact y1.stop H3 e3
      · rw [et, List.flatMap_append]
        rw [List.take_length] at qa3
        have e9 : List.flatMap (fun x => ys.map (gd x)) [xs[n]] = ys.map (gd xs[n]) := by
          rw [List.flatMap_cons, List.flatMap_nil, List.append_nil]
        rw [e9]
        exact qa3
  · have hn' : n = xs.length := by omega
    subst hn'
    refine .inl ⟨?_, ?_⟩
    · rw [← ly]
      exact y.stop H' e
    · rw [List.take_length] at qa
      exact k _ H' (e1.trans e) (.lst hacc qa)
theorem sv_setLc2 {α β : Type} {xs : List α} {ys : List β} {ex : α → PyData} {ey : β → PyData} {gd : α → β → PyData} {elt iter iter1 : Expr} {scope : Scope} (i j m n : Nat) {y u v : Str} {py spos pu pv : Pos} (own : List (Str × Nat)) (hN : X.N.Nodup) (ok : BlkOk X.N X.env.scope scope own)
    (hi : EvI X (.Name u pu) iter ρ (xs.map ex)) (hi1 : BlkP X scope fun Y => EvJ Y (.Name v pv) iter1 m (ys.map ey)) (hg : BlkP X scope fun Y => PG Y (.Name u pu) (gName i)) (hg1 : BlkP X scope fun Y => PG Y (.Name v pv) (gName j))
    (he : ∀ x ∈ xs, ∀ y ∈ ys, BlkP X scope fun Y => Ev Y elt (rset (rset (rset (rwipe ρ (own.map (·.2))) i (some (dat (ex x)))) j none) j (some (dat (ey y)))) (dat (gd x y)))
    (hf : ∀ x ∈ xs, ∀ y ∈ ys, flat (gd x y) = true) (hx : ∀ x ∈ xs, flat (ex x) = true) (hiv : i ∈ own.map (·.2)) (hjv : j ∈ own.map (·.2)) (hm : m ∉ own.map (·.2)) (hmi : m ≠ i) (hmj : m ≠ j) (hr : rat ρ m = some (pL (ys.map ey))) (hz : xs.length * ys.length ≤ 1000)
    (hsw : swapsWith (.ListComp elt [⟨.Name u pu, iter, [], 0⟩, ⟨.Name v pv, iter1, [], 0⟩] scope pos) (some (.Name y py)) spos.line X.env = pure true) (hc : X.calm = true := by rfl) (hy : X.N[n]? = some y := by rfl) (hyl : X.env.scope.names.lookup y = some .local := by rfl)
    (hs : ∀ x, foldedSetIterable iter X.env x = pure x := by intro _; rfl) (hs1 : ∀ env x, foldedSetIterable iter1 env x = pure x := by intro _ _; rfl) :
    Sv X (.Assign [.Name y py] (.ListComp elt [⟨.Name u pu, iter, [], 0⟩, ⟨.Name v pv, iter1, [], 0⟩] scope pos) spos) ρ (.nx (rset ρ n (some (pL (xs.flatMap fun x => ys.map (gd x)))))) :=
  ps_to (ps_setLc2 (own := own) (vs1 := [j]) hc hN hy hyl hsw hi ok (fun z hz => by rw [List.mem_singleton.mp hz]; exact hjv) hg (fun _ _ _ _ _ => pts_nil) hi1 hg1 (fun _ _ _ _ _ => pts_nil)
    (fun s H C cl fp => ⟨fun pins s' σ H' Q I q => by
      obtain ⟨x, y, hxy, q⟩ := q
      exact (he x hxy.1 y hxy.2 s H C cl fp).run pins s' σ H' Q I q⟩) hs hs1)
    fun D σ H ⟨st, k⟩ => tLc2_of hf hx hiv hm hmi hmj hr hz σ H _ ⟨st, fun v H' e q => k _ H' e ((st.mono e).set (P := pL _) q)⟩
theorem filter_yes {α : Type} (xs : List α) : xs.filter (fun _ => true) = xs := List.filter_eq_self.mpr fun _ _ => rfl
end
end Cu
set_option Elab.async false
set_option linter.all false
set_option maxRecDepth 100000
set_option maxHeartbeats 2000000
namespace Cu
open PySem PySem.Spec PyProof.Rows L2

/-! ### the calls of built-in things -/
section
variable {X : Cx} {e a b c d' : Expr} {es : List Expr} {ρ ρ' ρ1 : Rho} {P P1 P2 P3 : Pd} {Ps : List Pd} {pos p p2 : Pos} {x : Str} {ds : List PyData} {i j k : Int}
theorem ev_cB {id : String} {r : List V → Hp → VK → Prop} (hc : CallR X (.builtin id) r) (hm : X.mg x = none) (hv : bootBuiltins x = some (.builtin id)) (ha : EvA X (e :: es) ρ Ps)
    (hr : ∀ (H : Hp) (vs : List V) (Q : VK), PsOk H vs Ps → (∀ v H', Same H H' → P.h H' v → Q v H') → r vs H Q) (hg : Gl X x) (hn : x ≠ "__name__") (hd : (x == ("__debug__" : Str)) = false)
    (he : starEach (e :: es) X.env = (false, eval e X.env) :: starEach es X.env) (hpl : (backTo pos (starEach es X.env)).any (·.1) = false) : Ev X (.Call (.Name x p) (e :: es) [] pos) ρ P :=
  pe_to (pe_callB hc hg hm hv ha hn hd he hpl) fun σ H Q ⟨st, k⟩ => ⟨st, fun vs H1 e1 q => hr H1 vs Q q fun v H' e2 q2 => k v H' (e1.trans e2) q2⟩
theorem ev_cT {T : String} {r : List V → Hp → VK → Prop} (hc : CallR X (.type T) r) (hm : X.mg x = none) (hv : bootBuiltins x = some (.type T)) (ha : EvA X (e :: es) ρ Ps)
    (hr : ∀ (H : Hp) (vs : List V) (Q : VK), PsOk H vs Ps → (∀ v H', Same H H' → P.h H' v → Q v H') → r vs H Q) (hg : Gl X x) (hn : x ≠ "__name__") (hd : (x == ("__debug__" : Str)) = false)
    (he : starEach (e :: es) X.env = (false, eval e X.env) :: starEach es X.env) (hpl : (backTo pos (starEach es X.env)).any (·.1) = false) : Ev X (.Call (.Name x p) (e :: es) [] pos) ρ P :=
  pe_to (pe_callTy hc hg hm hv ha hn hd he hpl) fun σ H Q ⟨st, k⟩ => ⟨st, fun vs H1 e1 q => hr H1 vs Q q fun v H' e2 q2 => k v H' (e1.trans e2) q2⟩
theorem ps1 {H : Hp} {vs : List V} {d : PyData} (h : PsOk H vs [dat d]) : ∃ v, vs = [v] ∧ Dr H v d := by
  cases h with
  | cons h1 h2 =>
    cases h2
    exact ⟨_, rfl, h1⟩
theorem ev_lenL (hm : X.mg "len" = none) (ha : Ev X a ρ (pL ds)) (hg : Gl X "len" := by rfl) (he : starEach [a] X.env = (false, eval a X.env) :: starEach [] X.env := by rfl) :
    Ev X (.Call (.Name "len" p) [a] [] pos) ρ (pI (ds.length : Nat)) :=
  ev_cB call_len_seq hm PySem.boot_len (eva_cons ha eva_nil he) (fun H vs Q q k => by
    obtain ⟨v, rfl, r⟩ := ps1 q
    obtain ⟨l, xs, rfl, hl, q2⟩ := r.ofL
    exact ⟨l, xs, rfl, .inl (SqL.of hl), by rw [q2.length]; exact k _ H (Same.refl H) (.int _)⟩) hg (by decide) (by decide) he rfl
theorem ev_lenT (hm : X.mg "len" = none) (ha : Ev X a ρ (pT ds)) (hg : Gl X "len" := by rfl) (he : starEach [a] X.env = (false, eval a X.env) :: starEach [] X.env := by rfl) :
    Ev X (.Call (.Name "len" p) [a] [] pos) ρ (pI (ds.length : Nat)) :=
  ev_cB call_len_seq hm PySem.boot_len (eva_cons ha eva_nil he) (fun H vs Q q k => by
    obtain ⟨v, rfl, r⟩ := ps1 q
    obtain ⟨l, xs, rfl, hl, q2⟩ := r.ofT
    exact ⟨l, xs, rfl, .inr (SqT.of hl), by rw [q2.length]; exact k _ H (Same.refl H) (.int _)⟩) hg (by decide) (by decide) he rfl
theorem ev_lenS {y : Str} (hm : X.mg "len" = none) (ha : Ev X a ρ (pS y)) (hz : y.length ≤ sizeLine) (hg : Gl X "len" := by rfl) (he : starEach [a] X.env = (false, eval a X.env) :: starEach [] X.env := by rfl) :
    Ev X (.Call (.Name "len" p) [a] [] pos) ρ (pI (y.length : Nat)) :=
  ev_cB call_len_str hm PySem.boot_len (eva_cons ha eva_nil he) (fun H vs Q q k => by
    obtain ⟨v, rfl, r⟩ := ps1 q
    obtain rfl := r.ofS
    exact ⟨y, rfl, hz, k _ H (Same.refl H) (.int _)⟩) hg (by decide) (by decide) he rfl
theorem ev_abs (hm : X.mg "abs" = none) (ha : Ev X a ρ (pI i)) (hg : Gl X "abs" := by rfl) (he : starEach [a] X.env = (false, eval a X.env) :: starEach [] X.env := by rfl) :
    Ev X (.Call (.Name "abs" p) [a] [] pos) ρ (pI (i.natAbs : Nat)) :=
  ev_cB call_abs hm (by decide +kernel) (eva_cons ha eva_nil he) (fun H vs Q q k => by
    obtain rfl := q.int1
    refine ⟨i, rfl, ?_⟩
    rw [show (if i < 0 then -i else i) = (i.natAbs : Int) by split <;> omega]
    exact k _ H (Same.refl H) (.int _)) hg (by decide) (by decide) he rfl
theorem ev_toint (hm : X.mg "int" = none) (ha : Ev X a ρ (pI i)) (hg : Gl X "int" := by rfl) (he : starEach [a] X.env = (false, eval a X.env) :: starEach [] X.env := by rfl) :
    Ev X (.Call (.Name "int" p) [a] [] pos) ρ (pI i) :=
  ev_cT call_int1 hm (by decide +kernel) (eva_cons ha eva_nil he) (fun H vs Q q k => .inl ⟨i, q.int1, k _ H (Same.refl H) (.int _)⟩) hg (by decide) (by decide) he rfl
theorem ev_min2 (hm : X.mg "min" = none) (ha : Ev X a ρ (pI i)) (hb : Ev X b ρ (pI j)) (hc : X.calm = true := by rfl) (hg : Gl X "min" := by rfl) (he : starEach [a, b] X.env = (false, eval a X.env) :: starEach [b] X.env := by rfl)
    (he2 : starEach [b] X.env = (false, eval b X.env) :: starEach [] X.env := by rfl) (hpl : (backTo pos (starEach [b] X.env)).any (·.1) = false := by rfl) :
    Ev X (.Call (.Name "min" p) [a, b] [] pos) ρ (pI (min i j)) :=
  ev_cB (call_min2 hc) hm (by decide +kernel) (eva_cons ha (eva_cons hb eva_nil he2) he) (fun H vs Q q k => by
    obtain rfl := q.int2
    refine ⟨i, j, rfl, ?_⟩
    rw [show (if j < i then j else i) = min i j by split <;> omega]
    exact k _ H (Same.refl H) (.int _)) hg (by decide) (by decide) he hpl
theorem ev_max2 (hm : X.mg "max" = none) (ha : Ev X a ρ (pI i)) (hb : Ev X b ρ (pI j)) (hc : X.calm = true := by rfl) (hg : Gl X "max" := by rfl) (he : starEach [a, b] X.env = (false, eval a X.env) :: starEach [b] X.env := by rfl)
    (he2 : starEach [b] X.env = (false, eval b X.env) :: starEach [] X.env := by rfl) (hpl : (backTo pos (starEach [b] X.env)).any (·.1) = false := by rfl) :
    Ev X (.Call (.Name "max" p) [a, b] [] pos) ρ (pI (max i j)) :=
  ev_cB (call_max2 hc) hm (by decide +kernel) (eva_cons ha (eva_cons hb eva_nil he2) he) (fun H vs Q q k => by
    obtain rfl := q.int2
    refine ⟨i, j, rfl, ?_⟩
    rw [show (if j > i then j else i) = max i j by split <;> omega]
    exact k _ H (Same.refl H) (.int _)) hg (by decide) (by decide) he hpl
/-- the greatest, the least of a list of ints -/
theorem ev_maxL {ns : List Int} {m : Int} (hm : X.mg "max" = none) (ha : Ev X a ρ (pL (ns.map PyData.int))) (h1 : m ∈ ns) (h2 : ∀ y ∈ ns, y ≤ m) (hc : X.calm = true := by rfl) (hg : Gl X "max" := by rfl)
    (he : starEach [a] X.env = (false, eval a X.env) :: starEach [] X.env := by rfl) : Ev X (.Call (.Name "max" p) [a] [] pos) ρ (pI m) :=
  ev_cB (cr_max hc) hm (by decide +kernel) (eva_cons ha eva_nil he) (fun H vs Q q k => by
    obtain ⟨v, rfl, r⟩ := ps1 q
    obtain ⟨l, xs, rfl, hl, q2⟩ := r.ofL
    rw [q2.ints] at hl
    refine ⟨l, ns, rfl, SqL.of hl, List.length_pos_of_mem h1, fun z hz hy => ?_⟩
    rw [show z = m from Int.le_antisymm (h2 z hz) (hy m h1)]
    exact k _ H (Same.refl H) (.int _)) hg (by decide) (by decide) he rfl
theorem ev_minL {ns : List Int} {m : Int} (hm : X.mg "min" = none) (ha : Ev X a ρ (pL (ns.map PyData.int))) (h1 : m ∈ ns) (h2 : ∀ y ∈ ns, m ≤ y) (hc : X.calm = true := by rfl) (hg : Gl X "min" := by rfl)
    (he : starEach [a] X.env = (false, eval a X.env) :: starEach [] X.env := by rfl) : Ev X (.Call (.Name "min" p) [a] [] pos) ρ (pI m) :=
  ev_cB (cr_min hc) hm (by decide +kernel) (eva_cons ha eva_nil he) (fun H vs Q q k => by
    obtain ⟨v, rfl, r⟩ := ps1 q
    obtain ⟨l, xs, rfl, hl, q2⟩ := r.ofL
    rw [q2.ints] at hl
    refine ⟨l, ns, rfl, SqL.of hl, List.length_pos_of_mem h1, fun z hz hy => ?_⟩
    rw [show z = m from Int.le_antisymm (hy m h1) (h2 z hz)]
    exact k _ H (Same.refl H) (.int _)) hg (by decide) (by decide) he rfl
theorem ev_all {bs : List Bool} (hm : X.mg "all" = none) (ha : Ev X a ρ (pL (bs.map PyData.bool))) (hc : X.calm = true := by rfl) (hg : Gl X "all" := by rfl)
    (he : starEach [a] X.env = (false, eval a X.env) :: starEach [] X.env := by rfl) : Ev X (.Call (.Name "all" p) [a] [] pos) ρ (pB (bs.all id)) :=
  ev_cB (cr_all hc) hm (by decide +kernel) (eva_cons ha eva_nil he) (fun H vs Q q k => by
    obtain ⟨v, rfl, r⟩ := ps1 q
    obtain ⟨l, xs, rfl, hl, q2⟩ := r.ofL
    rw [q2.bools] at hl
    exact ⟨l, bs, rfl, SqL.of hl, k _ H (Same.refl H) (.bl _)⟩) hg (by decide) (by decide) he rfl
theorem ev_tupleL (hm : X.mg "tuple" = none) (ha : Ev X a ρ (pL ds)) (hg : Gl X "tuple" := by rfl) (he : starEach [a] X.env = (false, eval a X.env) :: starEach [] X.env := by rfl) :
    Ev X (.Call (.Name "tuple" p) [a] [] pos) ρ (pT ds) :=
  ev_cT call_tuple_of hm (by decide +kernel) (eva_cons ha eva_nil he) (fun H vs Q q k => by
    obtain ⟨v, rfl, r⟩ := ps1 q
    obtain ⟨l, xs, rfl, hl, q2⟩ := r.ofL
    exact ⟨l, xs, rfl, .inl ⟨SqL.of hl, fun m hn => k _ _ (same_new hn) (.tup upd_same (q2.mono (same_new hn)))⟩⟩) hg (by decide) (by decide) he rfl
theorem ev_listT (hm : X.mg "list" = none) (ha : Ev X a ρ (pT ds)) (hg : Gl X "list" := by rfl) (he : starEach [a] X.env = (false, eval a X.env) :: starEach [] X.env := by rfl) :
    Ev X (.Call (.Name "list" p) [a] [] pos) ρ (pL ds) :=
  ev_cT call_list_of hm (by decide +kernel) (eva_cons ha eva_nil he) (fun H vs Q q k => by
    obtain ⟨v, rfl, r⟩ := ps1 q
    obtain ⟨l, xs, rfl, hl, q2⟩ := r.ofT
    exact ⟨l, xs, rfl, .inr (SqT.of hl), fun m hn => k _ _ (same_new hn) (.lst upd_same (q2.mono (same_new hn)))⟩) hg (by decide) (by decide) he rfl
theorem ev_listL (hm : X.mg "list" = none) (ha : Ev X a ρ (pL ds)) (hg : Gl X "list" := by rfl) (he : starEach [a] X.env = (false, eval a X.env) :: starEach [] X.env := by rfl) :
    Ev X (.Call (.Name "list" p) [a] [] pos) ρ (pL ds) :=
  ev_cT call_list_of hm (by decide +kernel) (eva_cons ha eva_nil he) (fun H vs Q q k => by
    obtain ⟨v, rfl, r⟩ := ps1 q
    obtain ⟨l, xs, rfl, hl, q2⟩ := r.ofL
    exact ⟨l, xs, rfl, .inl (SqL.of hl), fun m hn => k _ _ (same_new hn) (.lst upd_same (q2.mono (same_new hn)))⟩) hg (by decide) (by decide) he rfl
theorem ev_gcd (hm : X.mg "gcd" = some (.builtin "math.gcd")) (ha : Ev X a ρ (pI i)) (hb : Ev X b ρ (pI j)) (hg : Gl X "gcd" := by rfl) (he : starEach [a, b] X.env = (false, eval a X.env) :: starEach [b] X.env := by rfl)
    (he2 : starEach [b] X.env = (false, eval b X.env) :: starEach [] X.env := by rfl) (hpl : (backTo pos (starEach [b] X.env)).any (·.1) = false := by rfl) :
    Ev X (.Call (.Name "gcd" p) [a, b] [] pos) ρ (pI ((Nat.gcd i.natAbs j.natAbs : Nat) : Int)) :=
  pe_to (pe_callBfun cr_gcd hg hm (eva_cons ha (eva_cons hb eva_nil he2) he) (by decide) he hpl) fun σ H Q ⟨st, k⟩ => ⟨st, fun vs H1 e1 q => ⟨i, j, q.int2, k _ H1 e1 (.int _)⟩⟩
/-! #### sorted of pairs -/
def pr2 (q : Int × Int) : PyData := .tuple [.int q.1, .int q.2]
theorem Dr.pr2 {H : Hp} {v : V} {q : Int × Int} (h : Dr H v (pr2 q)) : ∃ t, v = .ref t ∧ H t = some (.tup [.int q.1, .int q.2]) := by
  obtain ⟨t, xs, rfl, ht, q2⟩ := h.ofT
  cases q2 with
  | cons a q3 =>
    cases q3 with
    | cons b q4 =>
      cases q4
      rw [a.ofI, b.ofI] at ht
      exact ⟨t, rfl, ht⟩
/-- the pair at a place of the heap -/
def pairAt (H : Hp) (v : V) : Int × Int := match v with
  | .ref t => (match H t with
    | some (.tup [.int i, .int j]) => (i, j)
    | _ => (0, 0))
  | _ => (0, 0)
theorem pairAt_of {H : Hp} {v : V} {q : Int × Int} (h : Dr H v (pr2 q)) : pairAt H v = q := by
  obtain ⟨t, rfl, ht⟩ := h.pr2
  unfold pairAt
  simp only [ht]
theorem pairs_of {H : Hp} : ∀ {vs : List V} {ns : List (Int × Int)}, DrA H vs (ns.map Cu.pr2) → ns = vs.map (pairAt H)
  | _, [], .nil => rfl
  | _, n :: ns, .cons h q => by
    rw [List.map_cons, pairAt_of h, ← pairs_of q]
theorem pairs_back {H : Hp} : ∀ {vs : List V}, (∀ v ∈ vs, ∃ q, Dr H v (Cu.pr2 q)) → DrA H vs ((vs.map (pairAt H)).map Cu.pr2)
  | [], _ => .nil
  | v :: vs, h => by
    obtain ⟨q, hq⟩ := h v List.mem_cons_self
    refine .cons ?_ (pairs_back fun w hw => h w (List.mem_cons_of_mem _ hw))
    rw [pairAt_of hq]
    exact hq
theorem lex_uniq : ∀ {l m : List (Int × Int)}, l.Perm m → l.Pairwise (fun p q => SrtO.lexB q p = false) → m.Pairwise (fun p q => SrtO.lexB q p = false) → l = m := by
  intro l m h1 h2 h3
  refine List.Perm.eq_of_pairwise (le := fun p q => SrtO.lexB q p = false) (fun p q _ _ a b => ?_) h2 h3 h1
  have a' := SrtO.lexB_no.mp a
  have b' := SrtO.lexB_no.mp b
  exact Prod.ext (by omega) (by omega)
theorem ev_sortP {ns ms : List (Int × Int)} (hm : X.mg "sorted" = none) (ha : Ev X a ρ (pL (ns.map pr2))) (h1 : ms.Perm ns) (h2 : ms.Pairwise (fun p q => SrtO.lexB q p = false)) (hg : Gl X "sorted" := by rfl)
    (he : starEach [a] X.env = (false, eval a X.env) :: starEach [] X.env := by rfl) : Ev X (.Call (.Name "sorted" p) [a] [] pos) ρ (pL (ms.map pr2)) :=
  ev_cB cr_sortedPO hm (by decide +kernel) (eva_cons ha eva_nil he) (fun H vs Q q k => by
    obtain ⟨v, rfl, r⟩ := ps1 q
    obtain ⟨l, xs, rfl, hl, q2⟩ := r.ofL
    have hns := pairs_of q2
    have hall : ∀ x ∈ xs, ∃ q, Dr H x (pr2 q) := fun x hx => by
      obtain ⟨n, hn⟩ := List.getElem?_of_mem hx
      obtain ⟨d, hd, rd⟩ := q2.at hn
      rw [List.getElem?_map] at hd
      cases hq : ns[n]? with
      | none =>
        rw [hq] at hd
        cases hd
      | some z =>
        rw [hq] at hd
        cases hd
        exact ⟨z, rd⟩
    refine ⟨l, xs, pairAt H, rfl, SqL.of hl, fun x hx => ?_, fun ys m hs hb hm' => ?_⟩
    · obtain ⟨z, hz⟩ := hall x hx
      rw [pairAt_of hz]
      exact hz.pr2
    · refine k _ _ (same_new hm') (.lst upd_same (DrA.mono (same_new hm') ?_))
      have e1 : ms = ys.map (pairAt H) := by
        refine lex_uniq ?_ h2 ?_
        · rw [hns] at h1
          exact h1.trans (hb.perm.map (pairAt H)).symm
        · exact List.pairwise_map.mpr hs
      rw [e1]
      exact pairs_back fun v hv => hall v (hb.perm.mem_iff.mp hv)) hg (by decide) (by decide) he rfl

/-! ### tuples joined, slices, in -/
theorem ev_catT {d2 : PyData} {ds2 : List PyData} (ha : Ev X a ρ (pT (d2 :: ds))) (hb : Ev X b ρ (pT ds2)) (hn : ds2 ≠ []) (hz : (d2 :: ds).length + ds2.length ≤ sizeLine := by exact small1000' (Nat.le_of_ble_eq_true rfl)) : Ev X (.BinOp a .Add b pos) ρ (pT (d2 :: ds ++ ds2)) :=
  ev_op op_catT ha hb fun H u v Q q1 q2 k => by
    obtain ⟨l, xs, rfl, hl, r1⟩ := Dr.ofT q1
    obtain ⟨m, ys, rfl, hm, r2⟩ := Dr.ofT q2
    refine ⟨l, m, xs, ys, rfl, rfl, SqT.of hl, SqT.of hm, ?_, by rw [r1.length, r2.length]; exact hz, fun z => ?_, fun _ t ht => ?_⟩
    · rintro rfl
      cases r1
    · subst z
      cases r2
      exact absurd rfl hn
    · exact k _ _ (same_new ht) (.tup upd_same ((r1.append r2).mono (same_new ht)))
def cutD (ds : List PyData) (lo hi : Option Int) : List PyData := (ds.drop (HT.sIx ds.length 0 lo)).take (HT.sIx ds.length ds.length hi - HT.sIx ds.length 0 lo)
theorem DrA.cut {H : Hp} {vs : List V} (q : DrA H vs ds) (lo hi : Option Int) : DrA H (cutV vs lo hi) (cutD ds lo hi) := by
  unfold cutV cutD
  rw [q.length]
  exact (q.drop _).take _
theorem cutD_to (n : Nat) : cutD ds none (some (n : Int)) = ds.take n := by
  unfold cutD
  rw [HT.sIx_none, HT.sIx_nat, List.drop_zero, Nat.sub_zero]
  by_cases h : n ≤ ds.length
  · rw [Nat.min_eq_left h]
  · rw [Nat.min_eq_right (by omega), List.take_of_length_le (Nat.le_refl _), List.take_of_length_le (by omega)]
theorem cutD_from (n : Nat) : cutD ds (some (n : Int)) none = ds.drop n := by
  unfold cutD
  rw [HT.sIx_none, HT.sIx_nat]
  by_cases h : n ≤ ds.length
  · rw [Nat.min_eq_left h, List.take_of_length_le (by rw [List.length_drop]; omega)]
  · rw [Nat.min_eq_right (by omega), List.drop_eq_nil_of_le (Nat.le_refl _), List.drop_eq_nil_of_le (by omega), List.take_nil]
abbrev EvO (X : Cx) (e : Option Expr) (ρ : Rho) (o : Option Int) : Prop := PO X e (fun σ H Q => StOk H σ ρ ∧ ∀ H', Same H H' → Q o H')
theorem po_to {t t' : TO} {eo : Option Expr} (h : PO X eo t) (w : ∀ σ H Q, t' σ H Q → t σ H Q) : PO X eo t' := ⟨fun pins s σ H Q I q => h.run pins s σ H Q I (w σ H Q q)⟩
theorem evo_none : EvO X none ρ none := po_to po_none fun σ H Q ⟨st, k⟩ => k H (Same.refl H)
theorem evo_some (h : Ev X e ρ (pI i)) : EvO X (some e) ρ (some i) := po_to (po_some h) fun σ H Q ⟨st, k⟩ => ⟨st, fun v H1 e1 q => ⟨i, q.ofI, k H1 e1⟩⟩
theorem ev_slL {lo hi : Option Expr} {ol oh : Option Int} (ha : Ev X a ρ (pL ds)) (hl : EvO X lo ρ ol) (hh : EvO X hi ρ oh) : Ev X (.Subscript a (.Slice lo hi none p2) pos) ρ (pL (cutD ds ol oh)) :=
  pe_to (pe_slice sl_list ha hl hh) fun σ H Q ⟨st, k⟩ => ⟨st, fun v H1 e1 q => ⟨st.mono e1, fun H2 e2 => ⟨(st.mono e1).mono e2, fun H3 e3 => by
    obtain ⟨l, xs, rfl, hl', r⟩ := (q.mono (e2.trans e3)).ofL
    exact ⟨l, xs, rfl, SqL.of hl', fun m hm => k _ _ (e1.trans (e2.trans (e3.trans (same_new hm)))) (.lst upd_same ((r.cut ol oh).mono (same_new hm)))⟩⟩⟩⟩
theorem ev_slTo {n : Nat} {hi : Expr} (ha : Ev X a ρ (pL ds)) (hh : Ev X hi ρ (pI (n : Int))) : Ev X (.Subscript a (.Slice none (some hi) none p2) pos) ρ (pL (ds.take n)) := by
  have h := ev_slL (pos := pos) (p2 := p2) ha evo_none (evo_some hh)
  rw [cutD_to] at h
  exact h
theorem ev_slFrom {n : Nat} {lo : Expr} (ha : Ev X a ρ (pL ds)) (hl : Ev X lo ρ (pI (n : Int))) : Ev X (.Subscript a (.Slice (some lo) none none p2) pos) ρ (pL (ds.drop n)) := by
  have h := ev_slL (pos := pos) (p2 := p2) ha (evo_some hl) evo_none
  rw [cutD_from] at h
  exact h
theorem inV_int {n : Int} : ∀ ns : List Int, inV (.int n) (ns.map V.int) = decide (n ∈ ns)
  | [] => rfl
  | m :: ns => by
    have ih := inV_int (n := n) ns
    unfold inV at ih ⊢
    rw [List.map_cons, List.any_cons, ih]
    show (eqV (.int m) (.int n) || decide (n ∈ ns)) = decide (n ∈ m :: ns)
    by_cases h : n = m
    · subst h
      simp [eqV]
    · have h2 : (eqV (.int m) (.int n)) = false := by
        simp [eqV]
        exact fun z => h z.symm
      rw [h2, Bool.false_or]
      simp [h]
theorem inV_str {n : Str} : ∀ ns : List Str, inV (.str n) (ns.map V.str) = decide (n ∈ ns)
  | [] => rfl
  | m :: ns => by
    have ih := inV_str (n := n) ns
    unfold inV at ih ⊢
    rw [List.map_cons, List.any_cons, ih]
    show (eqV (.str m) (.str n) || decide (n ∈ ns)) = decide (n ∈ m :: ns)
    by_cases h : n = m
    · subst h
      simp [eqV]
    · have h2 : (eqV (.str m) (.str n)) = false := by
        simp [eqV]
        exact fun z => h z.symm
      rw [h2, Bool.false_or]
      simp [h]
theorem flat_ints (ns : List Int) : (ns.map V.int).all flatV = true := List.all_eq_true.mpr fun v hv => by
  obtain ⟨n, _, rfl⟩ := List.mem_map.mp hv
  rfl
theorem flat_strs (ns : List Str) : (ns.map V.str).all flatV = true := List.all_eq_true.mpr fun v hv => by
  obtain ⟨n, _, rfl⟩ := List.mem_map.mp hv
  rfl
/-- n in a tuple of ints -/
theorem ev_inT {ns : List Int} (ha : Ev X a ρ (pI i)) (hb : Ev X b ρ (pT (ns.map PyData.int))) (hm : behindInMarks .In b = false := by rfl) : Ev X (.Compare a [.In] [b] pos) ρ (pB (decide (i ∈ ns))) :=
  ev_cmp op_in_seq ha hb (fun H u v Q q1 q2 k => by
    obtain rfl := Dr.ofI q1
    obtain ⟨l, xs, rfl, hl, r⟩ := Dr.ofT q2
    rw [r.ints] at hl
    refine ⟨l, _, rfl, .inr (SqT.of hl), rfl, flat_ints ns, ?_⟩
    rw [if_neg Bool.false_ne_true, inV_int]
    exact k H (Same.refl H)) hm
/-- a text in a list of texts, as a test -/
theorem evt_inL {y : Str} {ys : List Str} (ha : Ev X a ρ (pS y)) (hb : Ev X b ρ (pL (ys.map PyData.str))) (hm : behindInMarks .In b = false := by rfl) : EvT X (.Compare a [.In] [b] pos) ρ (decide (y ∈ ys)) :=
  evt_cmp op_in_seq ha hb (fun H u v Q q1 q2 k => by
    obtain rfl := Dr.ofS q1
    obtain ⟨l, xs, rfl, hl, r⟩ := Dr.ofL q2
    rw [r.strs] at hl
    refine ⟨l, _, rfl, .inl (SqL.of hl), rfl, flat_strs ys, ?_⟩
    rw [if_neg Bool.false_ne_true, inV_str]
    exact k H (Same.refl H)) hm
/-- a sign in a text -/
theorem ev_inS {ch : Nat} {y : Str} (ha : Ev X a ρ (pS ⟨#[ch]⟩)) (hb : Ev X b ρ (pS y)) (hm : behindInMarks .In b = false := by rfl) : Ev X (.Compare a [.In] [b] pos) ρ (pB (decide (ch ∈ y.cps.toList))) :=
  ev_cmp op_in_sign ha hb (fun H u v Q q1 q2 k => ⟨ch, y, Dr.ofS q1, Dr.ofS q2, k H (Same.refl H)⟩) hm
theorem evt_inS {ch : Nat} {y : Str} (ha : Ev X a ρ (pS ⟨#[ch]⟩)) (hb : Ev X b ρ (pS y)) (hm : behindInMarks .In b = false := by rfl) : EvT X (.Compare a [.In] [b] pos) ρ (decide (ch ∈ y.cps.toList)) :=
  evt_cmp op_in_sign ha hb (fun H u v Q q1 q2 k => ⟨ch, y, Dr.ofS q1, Dr.ofS q2, k H (Same.refl H)⟩) hm

/-! ### tables -/
def tab (C : Addr) (w h : Int) : Pd := ⟨fun H v => ∃ l dx pk, v = .ref l ∧ H l = some (.ins C dx [("width", .int w), ("height", .int h), ("pockets", pk)]), fun e ⟨l, dx, pk, h1, h2⟩ => ⟨l, dx, pk, h1, e _ _ h2⟩⟩
theorem ev_fldI {C : Addr} {f : Str} {w h : Int} (hc : Cls X.K C) (hn : NoAttr X.K C f) (ha : Ev X a ρ (tab C w h)) (hl : ∀ pk : V, ([("width", .int w), ("height", .int h), ("pockets", pk)] : List (Str × V)).lookup f = some (.int i))
    (hb : attributeBase a f X.env (eval a X.env) = eval a X.env := by rfl) : Ev X (.Attribute a f pos) ρ (pI i) :=
  pe_to (pe_fld ha hb) fun σ H Q ⟨st, k⟩ => ⟨st, fun v H1 e1 ⟨l, dx, pk, q1, q2⟩ => ⟨l, C, dx, _, .int i, q1, q2, hc, hn, hl pk, k _ H1 e1 (.int _)⟩⟩
theorem ev_width {C : Addr} {w h : Int} (hc : Cls X.K C) (hn : NoAttr X.K C "width") (ha : Ev X a ρ (tab C w h)) (hb : attributeBase a "width" X.env (eval a X.env) = eval a X.env := by rfl) : Ev X (.Attribute a "width" pos) ρ (pI w) :=
  ev_fldI hc hn ha (fun pk => by simp only [List.lookup, show (("width" : Str) == "width") = true by decide +kernel]) hb
theorem ev_height {C : Addr} {w h : Int} (hc : Cls X.K C) (hn : NoAttr X.K C "height") (ha : Ev X a ρ (tab C w h)) (hb : attributeBase a "height" X.env (eval a X.env) = eval a X.env := by rfl) : Ev X (.Attribute a "height" pos) ρ (pI h) :=
  ev_fldI hc hn ha (fun pk => by simp only [List.lookup, show (("height" : Str) == "width") = false by decide +kernel, show (("height" : Str) == "height") = true by decide +kernel]) hb
end
end Cu
set_option Elab.async false
set_option linter.all false
set_option maxRecDepth 100000
set_option maxHeartbeats 2000000
namespace Cu
open PySem PySem.Spec PyProof.Rows L2

/-! ### a def's promise over data -/
def spR (Ps : List Pd) (Pr : Pd) : Sp := fun vs H Q _ => PsOk H vs Ps ∧ ∀ v H', Same H H' → Pr.h H' v → Q v H'
def rho0 (N : List Str) (Ps : List Pd) : Rho := Ps.map some ++ List.replicate (N.length - Ps.length) none
theorem stok_nones {H : Hp} : ∀ n : Nat, StOk H (List.replicate n none) (List.replicate n none)
  | 0 => trivial
  | n + 1 => stok_nones (H := H) n
theorem stok_start {H : Hp} : ∀ {vs : List V} {Ps : List Pd} (n : Nat), PsOk H vs Ps → StOk H (vs.map some ++ List.replicate n none) (Ps.map some ++ List.replicate n none)
  | _, _, n, .nil => stok_nones n
  | _, _, n, .cons h q => ⟨h, stok_start n q⟩
abbrev FnP (K : PySem.W.Frag) (x : Str) (st : Stmt) (f : Addr) (fd : FuncData) : Prop := FunD K x x (defArgs st) (defBody st) (defScope st) [] [] f fd
/-- a def of the module's top, as the text has it -/
def Has (K : PySem.W.Frag) (mg : Str → Option Value) (x : Str) (st : Stmt) : Prop := ∃ f fd, mg x = some (.ref f) ∧ FnP K x st f fd
/-- a name that is called with ps, and what comes of it -/
structure Dfn (P : Program) (w : World) (K : PySem.W.Frag) (mg : Str → Option Value) (base : Heap) (x : Str) (k : Nat) (Ps : List Pd) (Pr : Pd) : Prop where
  ex : ∃ (f : Addr) (fd : FuncData) (ps : List Str), mg x = some (.ref f) ∧ PySem.W.keepIn K (.ref f) = true ∧ Binds K fd ps [] ∧ FnOk P w K mg base CX0 k f fd ps (spR Ps Pr)
abbrev CxC (P : Program) (w : World) (K : PySem.W.Frag) (mg : Str → Option Value) (base : Heap) (N : List Str) (qual : Str) (sc : Scope) (f : Addr) (cdv : Value) (A : Around) (outer : List Env) (s : Shared) (H : Hp) (E : XK) : Cx :=
  (cxOf CX0 P w K mg base N qual sc f cdv A outer s H E).nox
section
variable {P : Program} {w : World} {K : PySem.W.Frag} {mg : Str → Option Value} {base : Heap}
theorem Dfn.mono {x : Str} {k m : Nat} {Ps : List Pd} {Pr : Pd} (F : Dfn P w K mg base x k Ps Pr) (h : k ≤ m) : Dfn P w K mg base x m Ps Pr := by
  obtain ⟨f, fd, ps, h1, h2, h3, h4⟩ := F.ex
  exact ⟨f, fd, ps, h1, h2, h3, h4.mono h⟩
/-- bound: every parameter is written -/
abbrev Bnd (x : Str) (st : Stmt) (ps : List Str) : Prop := ∀ (kV doc pm : Value) (an : Option Addr) (cdv ct : Value) (us : List Value), us.length = ps.length → bindArgs (PySem.W.fnOf x x (defArgs st) (defBody st) (defScope st) .none kV doc pm an cdv ct) ⟨us, []⟩ = pure (ps.zip us)
theorem dfn_of {x : Str} {st : Stmt} {N ps : List Str} {k : Nat} {Ps : List Pd} {Pr : Pd} (h : Has K mg x st) (S : FnScope N ps (defScope st)) (hl : Ps.length = ps.length) (hb : Bnd x st ps)
    (body : ∀ (f : Addr) (cdv : Value) (A : Around) (outer : List Env) (s : Shared) (H : Hp) (E : XK), Room k (A.deeper (envOfC x (defScope st) s.heap.objs.size f cdv)) →
      Svs (CxC P w K mg base N x (defScope st) f cdv A outer s H E) (defBody st) (rho0 N Ps) (.rt Pr)) : Dfn P w K mg base x (k + 1) Ps Pr := by
  obtain ⟨f, fd, hm, F⟩ := h
  refine ⟨f, fd, ps, hm, F.kp, F.bindsN hb, F.ok S (fun vs H Q E q => q.1.length.trans hl) fun cdv A outer s H vs Q E hr q => ⟨_, (body f cdv A outer s H E hr).nox, ?_⟩⟩
  refine ⟨?_, fun v H' e p => q.2 v H' e p⟩
  have e := q.1.length
  unfold L2.start rho0
  rw [e]
  exact stok_start _ q.1
/-- a def that comes to its end without a return -/
theorem dfn_ofN {x : Str} {st : Stmt} {N ps : List Str} {k : Nat} {Ps : List Pd} {ρ' : Rho} (h : Has K mg x st) (S : FnScope N ps (defScope st)) (hl : Ps.length = ps.length) (hb : Bnd x st ps)
    (body : ∀ (f : Addr) (cdv : Value) (A : Around) (outer : List Env) (s : Shared) (H : Hp) (E : XK), Room k (A.deeper (envOfC x (defScope st) s.heap.objs.size f cdv)) →
      Svs (CxC P w K mg base N x (defScope st) f cdv A outer s H E) (defBody st) (rho0 N Ps) (.nx ρ')) : Dfn P w K mg base x (k + 1) Ps pN := by
  obtain ⟨f, fd, hm, F⟩ := h
  refine ⟨f, fd, ps, hm, F.kp, F.bindsN hb, F.ok S (fun vs H Q E q => q.1.length.trans hl) fun cdv A outer s H vs Q E hr q => ⟨_, (body f cdv A outer s H E hr).nox, ?_⟩⟩
  refine ⟨?_, fun σ' H' e _ => q.2 _ H' e .non⟩
  have e := q.1.length
  unfold L2.start rho0
  rw [e]
  exact stok_start _ q.1
end
section
variable {X : Cx} {e : Expr} {es : List Expr} {ρ : Rho} {Ps : List Pd} {Pr : Pd} {x : Str} {p pos : Pos} {k : Nat}
theorem ev_call (F : Dfn X.prog X.w X.K X.mg X.base x k Ps Pr) (hr : Room k X.A) (ha : EvA X (e :: es) ρ Ps) (hg : Gl X x := by rfl) (hdb : (x == ("__debug__" : Str)) = false := by decide)
    (he : starEach (e :: es) X.env = (false, eval e X.env) :: starEach es X.env := by rfl) (hpl : (backTo pos (starEach es X.env)).any (·.1) = false := by rfl) : Ev X (.Call (.Name x p) (e :: es) [] pos) ρ Pr := by
  obtain ⟨f, fd, ps, hm, hk, hb, F⟩ := F.ex
  refine pe_to (pe_call (E := E0) F hr hg hm hk hb .nil pass0 ha hdb he hpl) fun σ H Q ⟨st, k⟩ => ⟨st, fun vs H1 e1 q => ?_⟩
  show spR Ps Pr (vs ++ []) H1 Q E0
  rw [List.append_nil]
  exact ⟨q, fun v H' e2 p => k v H' (e1.trans e2) p⟩
end
/-! ### the text -/


def topS (i : Nat) : Stmt := PySem.Challenge.pw_cushioned_k69_whole_great_crowds.main.body.getD i (.Pass ⟨0, 0, 0, 0⟩)
abbrev sRequire : Stmt := topS 11
abbrev sTableInit : Stmt := inClass (topS 12) 0
abbrev sTableIsPoint : Stmt := inClass (topS 12) 1
abbrev sIsName : Stmt := topS 17
abbrev sIsBall : Stmt := topS 18
abbrev sCheckBall : Stmt := topS 19
abbrev sCheckBalls : Stmt := topS 20
abbrev sPhaseOf : Stmt := topS 22
abbrev sFold : Stmt := topS 23
abbrev sPartAt : Stmt := topS 24
abbrev sPartsOf : Stmt := topS 25
abbrev sPlaceAt : Stmt := topS 26
abbrev sInverse : Stmt := topS 27
abbrev sAgreed : Stmt := topS 28
abbrev sOffsetOf : Stmt := topS 31
abbrev sMetMoving : Stmt := topS 32
abbrev sMetStanding : Stmt := topS 33
abbrev sHalfMoving : Stmt := topS 34
abbrev sPartClasses : Stmt := topS 35
abbrev sBothClasses : Stmt := topS 36
abbrev sPairClasses : Stmt := topS 37
abbrev sFromMinute : Stmt := topS 38
abbrev sHalfMeetings : Stmt := topS 39
abbrev sNextHalf : Stmt := topS 40
abbrev sTogether : Stmt := topS 41
abbrev sCheckCrowd : Stmt := topS 42
abbrev sAllTogether : Stmt := topS 43
abbrev sMostTogether : Stmt := topS 44
abbrev sLawRow : Stmt := topS 46
abbrev sLawNumbers : Stmt := topS 47
abbrev sLawGreat : Stmt := topS 50
abbrev sLawGreater : Stmt := topS 51
abbrev sLawPart : Stmt := topS 52
abbrev sLawWhere : Stmt := topS 53
abbrev sLawBack : Stmt := topS 54
abbrev sLawLed : Stmt := topS 55
abbrev sLawMiddle : Stmt := topS 56
abbrev sLawIsIn : Stmt := topS 57
abbrev sLawNextIn : Stmt := topS 58
abbrev sLaw : Stmt := topS 59

end Cu
set_option Elab.async false
set_option linter.all false
set_option maxRecDepth 100000
set_option maxHeartbeats 2000000
namespace Cu
open PySem PySem.Spec PyProof.Rows L2
/-! ### the defs' names: parameters first, the comprehensions' own behind -/
abbrev nRequire : List Str := ["holds"]
theorem scRequire : FnScope nRequire ["holds"] (defScope sRequire) := ⟨rfl, rfl, rfl, by decide +kernel, rfl, by decide +kernel, by decide +kernel⟩
abbrev nTableInit : List Str := ["self", "width", "height", "pockets", "point", "number"]
theorem scTableInit : FnScope nTableInit ["self", "width", "height", "pockets"] (defScope sTableInit) := ⟨rfl, rfl, rfl, by decide +kernel, rfl, by decide +kernel, by decide +kernel⟩
abbrev nTableIsPoint : List Str := ["self", "point"]
theorem scTableIsPoint : FnScope nTableIsPoint ["self", "point"] (defScope sTableIsPoint) := ⟨rfl, rfl, rfl, by decide +kernel, rfl, by decide +kernel, by decide +kernel⟩
abbrev nIsName : List Str := ["text", "char"]
theorem scIsName : FnScope nIsName ["text"] (defScope sIsName) := ⟨rfl, rfl, rfl, by decide +kernel, rfl, by decide +kernel, by decide +kernel⟩
abbrev nIsBall : List Str := ["table", "ball", "_", "x", "y", "dx", "dy", "minute"]
theorem scIsBall : FnScope nIsBall ["table", "ball"] (defScope sIsBall) := ⟨rfl, rfl, rfl, by decide +kernel, rfl, by decide +kernel, by decide +kernel⟩
abbrev nCheckBall : List Str := ["table", "ball"]
theorem scCheckBall : FnScope nCheckBall ["table", "ball"] (defScope sCheckBall) := ⟨rfl, rfl, rfl, by decide +kernel, rfl, by decide +kernel, by decide +kernel⟩
abbrev nCheckBalls : List Str := ["table", "balls", "number", "ball", "other"]
theorem scCheckBalls : FnScope nCheckBalls ["table", "balls"] (defScope sCheckBalls) := ⟨rfl, rfl, rfl, by decide +kernel, rfl, by decide +kernel, by decide +kernel⟩
abbrev nPhaseOf : List Str := ["size", "place", "step"]
theorem scPhaseOf : FnScope nPhaseOf ["size", "place", "step"] (defScope sPhaseOf) := ⟨rfl, rfl, rfl, by decide +kernel, rfl, by decide +kernel, by decide +kernel⟩
abbrev nFold : List Str := ["size", "phase", "rest"]
theorem scFold : FnScope nFold ["size", "phase"] (defScope sFold) := ⟨rfl, rfl, rfl, by decide +kernel, rfl, by decide +kernel, by decide +kernel⟩
abbrev nPartAt : List Str := ["size", "place", "step", "passed"]
theorem scPartAt : FnScope nPartAt ["size", "place", "step", "passed"] (defScope sPartAt) := ⟨rfl, rfl, rfl, by decide +kernel, rfl, by decide +kernel, by decide +kernel⟩
abbrev nPartsOf : List Str := ["table", "ball"]
theorem scPartsOf : FnScope nPartsOf ["table", "ball"] (defScope sPartsOf) := ⟨rfl, rfl, rfl, by decide +kernel, rfl, by decide +kernel, by decide +kernel⟩
abbrev nPlaceAt : List Str := ["table", "ball", "minute", "size", "place", "step"]
theorem scPlaceAt : FnScope nPlaceAt ["table", "ball", "minute"] (defScope sPlaceAt) := ⟨rfl, rfl, rfl, by decide +kernel, rfl, by decide +kernel, by decide +kernel⟩
abbrev nInverse : List Str := ["number", "modulus", "high", "low", "last", "now", "times"]
theorem scInverse : FnScope nInverse ["number", "modulus"] (defScope sInverse) := ⟨rfl, rfl, rfl, by decide +kernel, rfl, by decide +kernel, by decide +kernel⟩
abbrev nAgreed : List Str := ["one", "other", "first", "modulus", "second", "by", "common", "rounds", "whole"]
theorem scAgreed : FnScope nAgreed ["one", "other"] (defScope sAgreed) := ⟨rfl, rfl, rfl, by decide +kernel, rfl, by decide +kernel, by decide +kernel⟩
abbrev nOffsetOf : List Str := ["size", "place", "step", "start"]
theorem scOffsetOf : FnScope nOffsetOf ["size", "place", "step", "start"] (defScope sOffsetOf) := ⟨rfl, rfl, rfl, by decide +kernel, rfl, by decide +kernel, by decide +kernel⟩
abbrev nMetMoving : List Str := ["size", "one", "other", "total"]
theorem scMetMoving : FnScope nMetMoving ["size", "one", "other"] (defScope sMetMoving) := ⟨rfl, rfl, rfl, by decide +kernel, rfl, by decide +kernel, by decide +kernel⟩
abbrev nMetStanding : List Str := ["size", "moving", "place", "found"]
theorem scMetStanding : FnScope nMetStanding ["size", "moving", "place"] (defScope sMetStanding) := ⟨rfl, rfl, rfl, by decide +kernel, rfl, by decide +kernel, by decide +kernel⟩
abbrev nHalfMoving : List Str := ["size", "one", "other", "total"]
theorem scHalfMoving : FnScope nHalfMoving ["size", "one", "other"] (defScope sHalfMoving) := ⟨rfl, rfl, rfl, by decide +kernel, rfl, by decide +kernel, by decide +kernel⟩
abbrev nPartClasses : List Str := ["rows", "half", "size", "place", "step", "start", "_", "goal", "move", "begin", "one", "other"]
theorem scPartClasses : FnScope nPartClasses ["rows", "half"] (defScope sPartClasses) := ⟨rfl, rfl, rfl, by decide +kernel, rfl, by decide +kernel, by decide +kernel⟩
abbrev nBothClasses : List Str := ["some", "others", "found", "one", "other"]
theorem scBothClasses : FnScope nBothClasses ["some", "others"] (defScope sBothClasses) := ⟨rfl, rfl, rfl, by decide +kernel, rfl, by decide +kernel, by decide +kernel⟩
abbrev nPairClasses : List Str := ["table", "one", "other", "half", "found", "first", "second", "rows"]
theorem scPairClasses : FnScope nPairClasses ["table", "one", "other", "half"] (defScope sPairClasses) := ⟨rfl, rfl, rfl, by decide +kernel, rfl, by decide +kernel, by decide +kernel⟩
abbrev nFromMinute : List Str := ["classes", "minute", "remainder", "modulus"]
theorem scFromMinute : FnScope nFromMinute ["classes", "minute"] (defScope sFromMinute) := ⟨rfl, rfl, rfl, by decide +kernel, rfl, by decide +kernel, by decide +kernel⟩
abbrev nHalfMeetings : List Str := ["table", "one", "other"]
theorem scHalfMeetings : FnScope nHalfMeetings ["table", "one", "other"] (defScope sHalfMeetings) := ⟨rfl, rfl, rfl, by decide +kernel, rfl, by decide +kernel, by decide +kernel⟩
abbrev nNextHalf : List Str := ["table", "one", "other", "minute", "rows", "later", "first", "modulus"]
theorem scNextHalf : FnScope nNextHalf ["table", "one", "other", "minute"] (defScope sNextHalf) := ⟨rfl, rfl, rfl, by decide +kernel, rfl, by decide +kernel, by decide +kernel⟩
abbrev nTogether : List Str := ["table", "balls", "found", "ball"]
theorem scTogether : FnScope nTogether ["table", "balls"] (defScope sTogether) := ⟨rfl, rfl, rfl, by decide +kernel, rfl, by decide +kernel, by decide +kernel⟩
abbrev nCheckCrowd : List Str := ["table", "balls"]
theorem scCheckCrowd : FnScope nCheckCrowd ["table", "balls"] (defScope sCheckCrowd) := ⟨rfl, rfl, rfl, by decide +kernel, rfl, by decide +kernel, by decide +kernel⟩
abbrev nAllTogether : List Str := ["table", "balls"]
theorem scAllTogether : FnScope nAllTogether ["table", "balls"] (defScope sAllTogether) := ⟨rfl, rfl, rfl, by decide +kernel, rfl, by decide +kernel, by decide +kernel⟩
abbrev nMostTogether : List Str := ["table", "balls", "size", "found", "some", "rows", "ball", "minute", "names", "first"]
theorem scMostTogether : FnScope nMostTogether ["table", "balls"] (defScope sMostTogether) := ⟨rfl, rfl, rfl, by decide +kernel, rfl, by decide +kernel, by decide +kernel⟩
abbrev nLawRow : List Str := ["_law_cell", "_law_many", "_law_row_here", "_law_rest", "_law_mixed", "_law_k"]
theorem scLawRow : FnScope nLawRow ["_law_cell", "_law_many"] (defScope sLawRow) := ⟨rfl, rfl, rfl, by decide +kernel, rfl, by decide +kernel, by decide +kernel⟩
abbrev nLawNumbers : List Str := ["_law_script", "_law_many", "_law_cells", "_law_each", "_law_numbers_here", "_law_cell", "_law_number"]
theorem scLawNumbers : FnScope nLawNumbers ["_law_script", "_law_many"] (defScope sLawNumbers) := ⟨rfl, rfl, rfl, by decide +kernel, rfl, by decide +kernel, by decide +kernel⟩
abbrev nLawGreat : List Str := ["_law_numbers_here", "_law_at", "_law_total", "_law_k"]
theorem scLawGreat : FnScope nLawGreat ["_law_numbers_here", "_law_at"] (defScope sLawGreat) := ⟨rfl, rfl, rfl, by decide +kernel, rfl, by decide +kernel, by decide +kernel⟩
abbrev nLawGreater : List Str := ["_law_numbers_here", "_law_at", "_law_width", "_law_height", "_law_name", "_law_dx", "_law_dy", "_law_x", "_law_y", "_law_most", "_law_k"]
theorem scLawGreater : FnScope nLawGreater ["_law_numbers_here", "_law_at", "_law_width", "_law_height", "_law_name"] (defScope sLawGreater) := ⟨rfl, rfl, rfl, by decide +kernel, rfl, by decide +kernel, by decide +kernel⟩
abbrev nLawPart : List Str := ["_law_size_here", "_law_place", "_law_step", "_law_passed", "_law_total", "_law_rounds", "_law_rest"]
theorem scLawPart : FnScope nLawPart ["_law_size_here", "_law_place", "_law_step", "_law_passed"] (defScope sLawPart) := ⟨rfl, rfl, rfl, by decide +kernel, rfl, by decide +kernel, by decide +kernel⟩
abbrev nLawWhere : List Str := ["_law_width", "_law_height", "_law_ball_here", "_law_minute", "_law_name", "_law_x", "_law_y", "_law_dx", "_law_dy", "_law_start"]
theorem scLawWhere : FnScope nLawWhere ["_law_width", "_law_height", "_law_ball_here", "_law_minute"] (defScope sLawWhere) := ⟨rfl, rfl, rfl, by decide +kernel, rfl, by decide +kernel, by decide +kernel⟩
abbrev nLawBack : List Str := ["_law_size_here", "_law_place", "_law_step", "_law_passed", "_law_phase"]
theorem scLawBack : FnScope nLawBack ["_law_size_here", "_law_place", "_law_step", "_law_passed"] (defScope sLawBack) := ⟨rfl, rfl, rfl, by decide +kernel, rfl, by decide +kernel, by decide +kernel⟩
abbrev nLawLed : List Str := ["_law_width", "_law_height", "_law_name", "_law_point", "_law_heading", "_law_minute", "_law_start", "_law_x", "_law_dx", "_law_y", "_law_dy"]
theorem scLawLed : FnScope nLawLed ["_law_width", "_law_height", "_law_name", "_law_point", "_law_heading", "_law_minute", "_law_start"] (defScope sLawLed) := ⟨rfl, rfl, rfl, by decide +kernel, rfl, by decide +kernel, by decide +kernel⟩
abbrev nLawMiddle : List Str := ["_law_table", "_law_ball_here", "_law_minute", "_law_here", "_law_there"]
theorem scLawMiddle : FnScope nLawMiddle ["_law_table", "_law_ball_here", "_law_minute"] (defScope sLawMiddle) := ⟨rfl, rfl, rfl, by decide +kernel, rfl, by decide +kernel, by decide +kernel⟩
abbrev nLawIsIn : List Str := ["_law_rows", "_law_minute", "_law_row_here"]
theorem scLawIsIn : FnScope nLawIsIn ["_law_rows", "_law_minute"] (defScope sLawIsIn) := ⟨rfl, rfl, rfl, by decide +kernel, rfl, by decide +kernel, by decide +kernel⟩
abbrev nLawNextIn : List Str := ["_law_rows", "_law_minute", "_law_found", "_law_first", "_law_modulus"]
theorem scLawNextIn : FnScope nLawNextIn ["_law_rows", "_law_minute"] (defScope sLawNextIn) := ⟨rfl, rfl, rfl, by decide +kernel, rfl, by decide +kernel, by decide +kernel⟩
abbrev nLaw : List Str := ["_law_script", "_law_numbers_here", "_law_width", "_law_height", "_law_table", "_law_balls", "_law_k", "_law_minute", "_law_ball_here", "_law_made", "_law_point", "_law_heading", "_law_here", "_law_there", "_law_rows", "_law_first", "_law_modulus", "_law_now", "_law_points", "_law_soon", "_law_row_here", "_law_names", "_law_halves", "_law_same"]
theorem scLaw : FnScope nLaw ["_law_script"] (defScope sLaw) := ⟨rfl, rfl, rfl, by decide +kernel, rfl, by decide +kernel, by decide +kernel⟩
structure Txt (K : PySem.W.Frag) (mg : Str → Option Value) (C : Addr) : Prop where
  require : Has K mg "require" sRequire
  is_name : Has K mg "is_name" sIsName
  is_ball : Has K mg "is_ball" sIsBall
  check_ball : Has K mg "check_ball" sCheckBall
  check_balls : Has K mg "check_balls" sCheckBalls
  phase_of : Has K mg "phase_of" sPhaseOf
  fold : Has K mg "fold" sFold
  part_at : Has K mg "part_at" sPartAt
  parts_of : Has K mg "parts_of" sPartsOf
  place_at : Has K mg "place_at" sPlaceAt
  inverse_ : Has K mg "inverse" sInverse
  agreed : Has K mg "agreed" sAgreed
  offset_of : Has K mg "offset_of" sOffsetOf
  met_moving : Has K mg "met_moving" sMetMoving
  met_standing : Has K mg "met_standing" sMetStanding
  half_moving : Has K mg "half_moving" sHalfMoving
  part_classes : Has K mg "part_classes" sPartClasses
  both_classes : Has K mg "both_classes" sBothClasses
  from_minute : Has K mg "from_minute" sFromMinute
  half_meetings : Has K mg "half_meetings" sHalfMeetings
  next_half : Has K mg "next_half" sNextHalf
  together : Has K mg "together" sTogether
  check_crowd : Has K mg "check_crowd" sCheckCrowd
  all_together : Has K mg "all_together" sAllTogether
  most_together : Has K mg "most_together" sMostTogether
  law_row : Has K mg "_law_row" sLawRow
  law_numbers : Has K mg "_law_numbers" sLawNumbers
  law_great : Has K mg "_law_great" sLawGreat
  law_greater : Has K mg "_law_greater" sLawGreater
  law_part : Has K mg "_law_part" sLawPart
  law_where : Has K mg "_law_where" sLawWhere
  law_back : Has K mg "_law_back" sLawBack
  law_led : Has K mg "_law_led" sLawLed
  law_middle : Has K mg "_law_middle" sLawMiddle
  law_is_in : Has K mg "_law_is_in" sLawIsIn
  law_next_in : Has K mg "_law_next_in" sLawNextIn
  pair_classes : ∃ f fd, mg "pair_classes" = some (.ref f) ∧ FunD K "pair_classes" "pair_classes" (defArgs sPairClasses) (defBody sPairClasses) (defScope sPairClasses) [] [("half", .bl false)] f fd
  zLen : mg "len" = none
  zAll : mg "all" = none
  zTuple : mg "tuple" = none
  zEnumerate : mg "enumerate" = none
  zMin : mg "min" = none
  zMax : mg "max" = none
  zZip : mg "zip" = none
  zSorted : mg "sorted" = none
  zRange : mg "range" = none
  zList : mg "list" = none
  zInt : mg "int" = none
  zAbs : mg "abs" = none
  gcd : mg "gcd" = some (.builtin "math.gcd")
  combi : mg "combinations" = some (.type "itertools.combinations")
  cMOST : ∃ t, mg "MOST" = some (.int (10 ^ 30) t)
  cMOSTPOCKETS : ∃ t, mg "MOST_POCKETS" = some (.int (12) t)
  cMOSTNAMECHARS : ∃ t, mg "MOST_NAME_CHARS" = some (.int (12) t)
  cMOSTBALLSballs : ∃ t, mg "MOST_BALLS_balls" = some (.int (12) t)
  cMOSTBALLScrowds : ∃ t, mg "MOST_BALLS_crowds" = some (.int (6) t)
  cNAMECHARS : ∃ t, mg "NAME_CHARS" = some (.str "abcdefghijklmnopqrstuvwxyz0123456789" t)
  cls : Cls K C
  nW : NoAttr K C "width"
  nH : NoAttr K C "height"
  nP : NoAttr K C "pockets"
  isPoint : ∃ f fd, Meth K C "is_point" f ∧ FunD K "is_point" "Table.is_point" (defArgs sTableIsPoint) (defBody sTableIsPoint) (defScope sTableIsPoint) [] [] f fd
  make : ∃ f fd T, mg "Table" = some (.ref C) ∧ Mk K C f ∧ FunD K "__init__" "Table.__init__" (defArgs sTableInit) (defBody sTableInit) (defScope sTableInit) [.ref T] [] f fd ∧ ∀ H, SqT K H T []
end Cu
set_option Elab.async false
set_option linter.all false
set_option maxRecDepth 100000
set_option maxHeartbeats 2000000
namespace Cu
open PySem PySem.Spec PyProof.Rows L2

/-! ### what the small defs reckon -/
def phaseOf (n p s : Int) : Int := if s = 1 then p else -p % (2 * n)
def foldF (n p : Int) : Int := min (p % (2 * n)) (2 * n - p % (2 * n))
def partAt (n p s t : Int) : Int := if s = 0 then p else foldF n (phaseOf n p s + t)
def offsetOf (n p s b : Int) : Int := (phaseOf n p s - b) % (2 * n)
def metMoving (n a b : Int) : List (Int × Int) := if a = b then [(0, 1)] else if (a + b) % 2 = 1 then [] else [(-((a + b) / 2) % n, n)]
def halfMoving (n a b : Int) : List (Int × Int) := if a = b then [(0, 1)] else if (a + b + 1) % 2 = 1 then [] else [(-((a + b + 1) / 2) % n, n)]
def metStanding (n m p : Int) : List (Int × Int) := if (p - m) % (2 * n) = (-p - m) % (2 * n) then [((p - m) % (2 * n), 2 * n)] else [((p - m) % (2 * n), 2 * n), ((-p - m) % (2 * n), 2 * n)]
abbrev tInt3 (a b c : Int) : PyData := .tuple [.int a, .int b, .int c]
abbrev tInt4 (a b c d : Int) : PyData := .tuple [.int a, .int b, .int c, .int d]
/-- a ball -/
structure Ball where
  nm : Str
  x : Int
  y : Int
  dx : Int
  dy : Int
  m : Int
def Ball.d (b : Ball) : PyData := .tuple [.str b.nm, .int b.x, .int b.y, .int b.dx, .int b.dy, .int b.m]
theorem dTrue {p : Prop} [Decidable p] (h : decide p = true) : p := of_decide_eq_true h
theorem dFalse {p : Prop} [Decidable p] (h : decide p = false) : ¬ p := of_decide_eq_false h
theorem ndTrue {p : Prop} [Decidable p] (h : (!decide p) = true) : ¬ p := by
  cases hd : decide p with
  | true =>
    rw [hd] at h
    cases h
  | false => exact of_decide_eq_false hd
theorem ndFalse {p : Prop} [Decidable p] (h : (!decide p) = false) : p := by
  cases hd : decide p with
  | true => exact of_decide_eq_true hd
  | false =>
    rw [hd] at h
    cases h
theorem eqv2 (a b c d : Int) : PyData.eqv (.tuple [.int a, .int b]) (.tuple [.int c, .int d]) = decide (a = c ∧ b = d) := by
  show ((a == c) && ((b == d) && true)) = _
  rw [Bool.and_true, Bool.decide_and]
  rfl
section
variable {P : Program} {w : World} {K : PySem.W.Frag} {mg : Str → Option Value} {base : Heap} {C : Addr}
theorem df_phase (T : Txt K mg C) (n p s : Int) (hn : 0 < n) : Dfn P w K mg base "phase_of" 1 [pI n, pI p, pI s] (pI (phaseOf n p s)) := by
  refine dfn_of T.phase_of scPhaseOf rfl (fun _ _ _ _ _ _ us hl => match us, hl with | [_, _, _], _ => rfl) fun f cdv A outer s' H E hr => ?_
  refine svs_one (sv_ret (ev_if (evt_eq (ev_var 2) ev_int) (fun h => ev_cast (ev_var 1) ?_) (fun h => ev_cast (ev_mod (ev_neg (ev_var 1)) (ev_mul ev_int (ev_var 0) ?_) ?_) ?_)))
  · unfold phaseOf
    rw [if_pos (dTrue h)]
  · exact .inl (by decide)
  · omega
  · unfold phaseOf
    rw [if_neg (dFalse h)]
theorem df_fold (T : Txt K mg C) (n p : Int) (hn : 0 < n) : Dfn P w K mg base "fold" 1 [pI n, pI p] (pI (foldF n p)) := by
  refine dfn_of T.fold scFold rfl (fun _ _ _ _ _ _ us hl => match us, hl with | [_, _], _ => rfl) fun f cdv A outer s H E hr => ?_
  refine svs_cons (sv_set 2 scFold.nd (ev_mod (ev_var 1) (ev_mul ev_int (ev_var 0) ?_) ?_)) (svs_one (sv_ret (ev_min2 T.zMin (ev_var 2) (ev_sub (ev_mul ev_int (ev_var 0) ?_) (ev_var 2)))))
  · exact .inl (by decide)
  · omega
  · exact .inl (by decide)
theorem df_part (T : Txt K mg C) (n p s t : Int) (hn : 0 < n) : Dfn P w K mg base "part_at" 2 [pI n, pI p, pI s, pI t] (pI (partAt n p s t)) := by
  refine dfn_of T.part_at scPartAt rfl (fun _ _ _ _ _ _ us hl => match us, hl with | [_, _, _, _], _ => rfl) fun f cdv A outer s' H E hr => ?_
  refine svs_if (evt_eq (ev_var 2) ev_int) (fun h => svs_one (sv_ret' (ev_var 1) ?_)) (fun h => svs_one (sv_ret' (ev_call (df_fold T n _ hn) hr (eva_cons (ev_var 0) (eva_cons (ev_add (ev_call (df_phase T n p s hn) hr (eva_cons (ev_var 0) (eva_cons (ev_var 1) (eva_cons (ev_var 2) eva_nil)))) (ev_var 3)) eva_nil))) ?_))
  · unfold partAt
    rw [if_pos (dTrue h)]
  · unfold partAt
    rw [if_neg (dFalse h)]
theorem df_offset (T : Txt K mg C) (n p s b : Int) (hn : 0 < n) : Dfn P w K mg base "offset_of" 2 [pI n, pI p, pI s, pI b] (pI (offsetOf n p s b)) := by
  refine dfn_of T.offset_of scOffsetOf rfl (fun _ _ _ _ _ _ us hl => match us, hl with | [_, _, _, _], _ => rfl) fun f cdv A outer s' H E hr => ?_
  refine svs_one (sv_ret (ev_mod (ev_sub (ev_call (df_phase T n p s hn) hr (eva_cons (ev_var 0) (eva_cons (ev_var 1) (eva_cons (ev_var 2) eva_nil)))) (ev_var 3)) (ev_mul ev_int (ev_var 0) ?_) ?_))
  · exact .inl (by decide)
  · omega
theorem df_metMoving (T : Txt K mg C) (n a b : Int) (hn : 0 < n) : Dfn P w K mg base "met_moving" 1 [pI n, pI a, pI b] (pL ((metMoving n a b).map pr2)) := by
  refine dfn_of T.met_moving scMetMoving rfl (fun _ _ _ _ _ _ us hl => match us, hl with | [_, _, _], _ => rfl) fun f cdv A outer s' H E hr => ?_
  refine svs_if (evt_eq (ev_var 1) (ev_var 2)) (fun h => svs_one (sv_ret' (ev_lst (evd_cons (ev_tup (evd_cons ev_int (evd_cons ev_int evd_nil))) evd_nil)) ?_)) (fun h =>
    svs_cons (sv_set 3 scMetMoving.nd (ev_add (ev_var 1) (ev_var 2))) (svs_one (sv_ret (ev_if (evt_eq (ev_mod (ev_var 3) ev_int ?_) ev_int) (fun h2 => ev_cast (ev_lst evd_nil) ?_)
      (fun h2 => ev_cast (ev_lst (evd_cons (ev_tup (evd_cons (ev_mod (ev_neg (ev_div (ev_var 3) ev_int ?_)) (ev_var 0) hn) (evd_cons (ev_var 0) evd_nil))) evd_nil)) ?_)))))
  · unfold metMoving
    rw [if_pos (dTrue h)]
    rfl
  · decide
  · unfold metMoving
    rw [if_neg (dFalse h), if_pos (dTrue h2)]
    rfl
  · exact ⟨by decide, by decide⟩
  · unfold metMoving
    rw [if_neg (dFalse h), if_neg (dFalse h2)]
    rfl
theorem df_halfMoving (T : Txt K mg C) (n a b : Int) (hn : 0 < n) : Dfn P w K mg base "half_moving" 1 [pI n, pI a, pI b] (pL ((halfMoving n a b).map pr2)) := by
  refine dfn_of T.half_moving scHalfMoving rfl (fun _ _ _ _ _ _ us hl => match us, hl with | [_, _, _], _ => rfl) fun f cdv A outer s' H E hr => ?_
  refine svs_if (evt_eq (ev_var 1) (ev_var 2)) (fun h => svs_one (sv_ret' (ev_lst (evd_cons (ev_tup (evd_cons ev_int (evd_cons ev_int evd_nil))) evd_nil)) ?_)) (fun h =>
    svs_cons (sv_set 3 scHalfMoving.nd (ev_add (ev_add (ev_var 1) (ev_var 2)) ev_int)) (svs_one (sv_ret (ev_if (evt_eq (ev_mod (ev_var 3) ev_int ?_) ev_int) (fun h2 => ev_cast (ev_lst evd_nil) ?_)
      (fun h2 => ev_cast (ev_lst (evd_cons (ev_tup (evd_cons (ev_mod (ev_neg (ev_div (ev_var 3) ev_int ?_)) (ev_var 0) hn) (evd_cons (ev_var 0) evd_nil))) evd_nil)) ?_)))))
  · unfold halfMoving
    rw [if_pos (dTrue h)]
    rfl
  · decide
  · unfold halfMoving
    rw [if_neg (dFalse h), if_pos (dTrue h2)]
    rfl
  · exact ⟨by decide, by decide⟩
  · unfold halfMoving
    rw [if_neg (dFalse h), if_neg (dFalse h2)]
    rfl
theorem df_metStanding (T : Txt K mg C) (n m p : Int) (hn : 0 < n) : Dfn P w K mg base "met_standing" 1 [pI n, pI m, pI p] (pL ((metStanding n m p).map pr2)) := by
  refine dfn_of T.met_standing scMetStanding rfl (fun _ _ _ _ _ _ us hl => match us, hl with | [_, _, _], _ => rfl) fun f cdv A outer s' H E hr => ?_
  refine svs_cons (sv_set 3 scMetStanding.nd (ev_lst (evd_cons (ev_tup (evd_cons (ev_mod (ev_sub (ev_var 2) (ev_var 1)) (ev_mul ev_int (ev_var 0) ?_) ?_) (evd_cons (ev_mul ev_int (ev_var 0) ?_) evd_nil)))
    (evd_cons (ev_tup (evd_cons (ev_mod (ev_sub (ev_neg (ev_var 2)) (ev_var 1)) (ev_mul ev_int (ev_var 0) ?_) ?_) (evd_cons (ev_mul ev_int (ev_var 0) ?_) evd_nil))) evd_nil))))
    (svs_one (sv_ret (ev_if (evt_eqD hr.units (ev_ixL (ev_var 3) ev_int) (ev_ixL (ev_var 3) ev_int)) (fun h => ev_cast (ev_slTo (n := 1) (ev_var 3) ev_int) ?_) (fun h => ev_cast (ev_var 3) ?_))))
  · exact .inl (by decide)
  · omega
  · exact .inl (by decide)
  · exact .inl (by decide)
  · omega
  · exact .inl (by decide)
  · rw [eqv2] at h
    unfold metStanding
    rw [if_pos (dTrue h).1]
    rfl
  · rw [eqv2] at h
    unfold metStanding
    rw [if_neg fun z => dFalse h ⟨z, rfl⟩]
    rfl
end
end Cu
set_option Elab.async false
set_option linter.all false
set_option maxRecDepth 100000
set_option maxHeartbeats 2000000
namespace Cu
open PySem PySem.Spec PyProof.Rows L2

section
variable {X : Cx} {e o a b c : Expr} {es : List Expr} {ρ : Rho} {Ps : List Pd} {Pr P1 P2 P3 : Pd} {x m : Str} {p pos apos : Pos} {k : Nat} {i j l : Int}
theorem evt_chain {t t' : Bool} {op op' : CmpOp} {r r' : R2} (ho : OpR X (compareOp op) r) (ho' : OpR X (compareOp op') r') (ha : Ev X a ρ P1) (hb : Ev X b ρ P2) (hc : Ev X c ρ P3)
    (hr : ∀ (H : Hp) (u v : V) (Q : VK), P1.h H u → P2.h H v → (∀ H', Same H H' → Q (.bl t) H') → r u v H Q) (hr' : ∀ (H : Hp) (u v : V) (Q : VK), P2.h H u → P3.h H v → (∀ H', Same H H' → Q (.bl t') H') → r' u v H Q)
    (hm : lastMarks [op, op'] [b, c] = false := by with_unfolding_all rfl) : EvT X (.Compare a [op, op'] [b, c] pos) ρ (t && t') :=
  pt_to (pt_chain ho ho' ha hb hc hm) fun σ H Q ⟨st, k⟩ => ⟨st, fun u H1 e1 q1 => ⟨st.mono e1, fun v H2 e2 q2 => hr H2 u v _ (P1.up e2 q1) q2 fun H3 e3 => ⟨t, rfl, by
    cases t with
    | false => exact iteF ⟨_, rfl, k H3 (e1.trans (e2.trans e3))⟩
    | true => exact iteT ⟨st.mono (e1.trans (e2.trans e3)), fun w' H4 e4 q4 => hr' H4 v w' _ (P2.up (e3.trans e4) q2) q4 fun H5 e5 => ⟨_, rfl, k H5 (e1.trans (e2.trans (e3.trans (e4.trans e5))))⟩⟩⟩⟩⟩
theorem evt_lele (ha : Ev X a ρ (pI i)) (hb : Ev X b ρ (pI j)) (hc : Ev X c ρ (pI l)) (hm : lastMarks [.LtE, .LtE] [b, c] = false := by with_unfolding_all rfl) : EvT X (.Compare a [.LtE, .LtE] [b, c] pos) ρ (decide (i ≤ j) && decide (j ≤ l)) :=
  evt_chain op_le op_le ha hb hc (fun _ _ _ _ h1 h2 q => cI (g := fun i j => decide (i ≤ j)) h1 h2 q) (fun _ _ _ _ h1 h2 q => cI (g := fun i j => decide (i ≤ j)) h1 h2 q) hm
/-- o.m(e, ..) of a table -/
theorem ev_meth {pl : Sem Bool} {C f : Addr} {fd : FuncData} {ps : List Str} {w h : Int} (hc : Cls X.K C) (hm : Meth X.K C m f) (F : FnOk X.prog X.w X.K X.mg X.base CX0 k f fd ps (spR (tab C w h :: Ps) Pr)) (hr : Room k X.A) (hb : Binds X.K fd ps [])
    (ho : Ev X o ρ (tab C w h)) (ha : EvA X (e :: es) ρ Ps) (hn : ∀ pk : V, ([("width", .int w), ("height", .int h), ("pockets", pk)] : List (Str × V)).lookup m = none)
    (hst : starEach (e :: es) X.env = (false, eval e X.env) :: starEach es X.env := by rfl) (hpl : (backTo pos (starEach es X.env)).any (·.1) = false := by rfl)
    (ht : eval (.Call (.Attribute o m apos) (e :: es) [] pos) X.env = (do
      let ov ← eval o X.env
      standAt apos.atName
      let (f, first) ← holding [ov] (getMethod ov m pl)
      callWith pos f first (backTo pos (starEach (e :: es) X.env)) (backToKw pos (keywordEach [] X.env))) := by rfl) : Ev X (.Call (.Attribute o m apos) (e :: es) [] pos) ρ Pr :=
  pe_to (pe_meth (E := E0) ho hc hm F hr hb .nil pass0 ha hst hpl ht) fun σ H Q ⟨st, k⟩ => ⟨st, fun v H1 e1 q1 => by
    obtain ⟨t, dx, pk, rfl, q2⟩ := id q1
    refine ⟨t, dx, _, rfl, q2, hn pk, st.mono e1, fun vs H2 e2 q3 => ?_⟩
    show spR _ Pr (.ref t :: (vs ++ [])) H2 Q E0
    rw [List.append_nil]
    exact ⟨.cons ((tab C w h).up e2 q1) q3, fun v' H' e3 p => k v' H' (e1.trans (e2.trans e3)) p⟩⟩
end
/-! ### balls -/
def sgn (c : Nat) : Str := ⟨#[c]⟩
structure OkBall (w h : Int) (b : Ball) : Prop where
  nm : ∃ c : Nat, b.nm = sgn c ∧ 97 ≤ c ∧ c ≤ 99
  x0 : 0 ≤ b.x
  x1 : b.x ≤ w
  y0 : 0 ≤ b.y
  y1 : b.y ≤ h
  dx : b.dx = -1 ∨ b.dx = 0 ∨ b.dx = 1
  dy : b.dy = -1 ∨ b.dy = 0 ∨ b.dy = 1
  nz : ¬ (b.dx = 0 ∧ b.dy = 0)
  m0 : 0 ≤ b.m
  m1 : b.m ≤ 10 ^ 30
theorem sgn_digit {c : Nat} (h : 97 ≤ c) (h2 : c ≤ 99) : decide (c ∈ ("0123456789" : Str).cps.toList) = false := by
  have : c = 97 ∨ c = 98 ∨ c = 99 := by omega
  rcases this with rfl | rfl | rfl <;> decide +kernel
theorem sgn_char {c : Nat} (h : 97 ≤ c) (h2 : c ≤ 99) : decide (c ∈ ("abcdefghijklmnopqrstuvwxyz0123456789" : Str).cps.toList) = true := by
  have : c = 97 ∨ c = 98 ∨ c = 99 := by omega
  rcases this with rfl | rfl | rfl <;> decide +kernel
theorem bools_map {α : Type} (xs : List α) (f : α → Bool) : xs.map (fun x => PyData.bool (f x)) = (xs.map f).map PyData.bool := by rw [List.map_map]; rfl
theorem ints_map {α : Type} (xs : List α) (f : α → Int) : xs.map (fun x => PyData.int (f x)) = (xs.map f).map PyData.int := by rw [List.map_map]; rfl
theorem strs_map {α : Type} (xs : List α) (f : α → Str) : xs.map (fun x => PyData.str (f x)) = (xs.map f).map PyData.str := by rw [List.map_map]; rfl
def placeAt (w h : Int) (b : Ball) (t : Int) : Int × Int := (partAt w b.x b.dx (t - b.m), partAt h b.y b.dy (t - b.m))
def Balls (w h : Int) (bs : List Ball) : Prop := (∀ b ∈ bs, OkBall w h b) ∧ (bs.map Ball.nm).Nodup ∧ 1 ≤ bs.length ∧ bs.length ≤ 3
section
variable {P : Program} {w : World} {K : PySem.W.Frag} {mg : Str → Option Value} {base : Heap} {C : Addr} {W Hh : Int}
theorem df_isName (T : Txt K mg C) (c : Nat) (h : 97 ≤ c) (h2 : c ≤ 99) : Dfn P w K mg base "is_name" 1 [pS (sgn c)] (pB true) := by
  refine dfn_of T.is_name scIsName rfl (fun _ _ _ _ _ _ us hl => match us, hl with | [_], _ => rfl) fun f cdv A outer s' H E hr => ?_
  refine svs_cons (sv_ifno (evt_cast (evt_w (evw_or (evt_not (evt_lele ev_int (ev_lenS T.zLen (ev_var 0) (small1000' (Nat.le_of_ble_eq_true rfl))) (ev_gint T.cMOSTNAMECHARS)))
    (fun _ => evw_or1 (evt_inS (ev_ixS (ch := c) (ev_var 0) ev_int (small1000' (Nat.le_of_ble_eq_true rfl)) rfl) ev_str)))) ?_))
    (svs_one (sv_ret' (ev_all (bs := (([c] : List Nat).map fun c => decide (c ∈ ("abcdefghijklmnopqrstuvwxyz0123456789" : Str).cps.toList))) T.zAll (ev_cast (ev_lc (xs := [c]) (enc := fun ch => .str ⟨#[ch]⟩) (pr := fun _ => true)
      (gd := fun c => .bool (decide (c ∈ ("abcdefghijklmnopqrstuvwxyz0123456789" : Str).cps.toList))) [("char", 1)] scIsName.nd (blkOk_by (N := nIsName) (sc := defScope sIsName) (by decide +kernel)) (evi_str (y := sgn c) (ev_var 0)) (by decide)
      (fun x hx s H C cl fp => tg_name 1 scIsName.nd) (fun x hx s H C cl fp => evts_nil) (fun x hx _ s H C cl fp => ev_inS (ev_var 1) (ev_gstr T.cNAMECHARS)) (fun x hx => rfl) (Nat.le_of_ble_eq_true rfl)) rfl)) ?_))
  · rw [sgn_digit h h2]
    rfl
  · show pB ([decide (c ∈ ("abcdefghijklmnopqrstuvwxyz0123456789" : Str).cps.toList)].all id) = pB true
    rw [sgn_char h h2]
    rfl
theorem fn_isPoint (T : Txt K mg C) (x y : Int) : ∃ f fd, Meth K C "is_point" f ∧ Binds K fd ["self", "point"] [] ∧ FnOk P w K mg base CX0 1 f fd ["self", "point"] (spR [tab C W Hh, pT [.int x, .int y]] (pB ((decide (0 ≤ x) && decide (x ≤ W)) && (decide (0 ≤ y) && decide (y ≤ Hh))))) := by
  obtain ⟨f, fd, hm, F⟩ := T.isPoint
  refine ⟨f, fd, hm, F.bindsN fun _ _ _ _ _ _ us hl => match us, hl with | [_, _], _ => rfl, F.ok (N := nTableIsPoint) scTableIsPoint (fun vs H Q E q => q.1.length) fun cdv A outer s H vs Q E hr q => ?_⟩
  refine ⟨_, (show Svs (CxC P w K mg base nTableIsPoint "Table.is_point" (defScope sTableIsPoint) f cdv A outer s H E) (defBody sTableIsPoint) (rho0 nTableIsPoint [tab C W Hh, pT [.int x, .int y]]) (.rt (pB _)) from
    svs_one (sv_ret (ev_and (ev_lele ev_int (ev_ixT (ev_var 1) ev_int) (ev_width T.cls T.nW (ev_var 0))) fun _ => ev_one (ev_lele ev_int (ev_ixT (ev_var 1) ev_int) (ev_height T.cls T.nH (ev_var 0)))))).nox, ?_⟩
  refine ⟨?_, fun v H' e p => q.2 v H' e p⟩
  have e := q.1.length
  unfold L2.start rho0
  rw [e]
  exact stok_start _ q.1
theorem df_isBall (T : Txt K mg C) (b : Ball) (ok : OkBall W Hh b) : Dfn P w K mg base "is_ball" 2 [tab C W Hh, dat b.d] (pB true) := by
  refine dfn_of T.is_ball scIsBall rfl (fun _ _ _ _ _ _ us hl => match us, hl with | [_, _], _ => rfl) fun f cdv A outer s' H E hr => ?_
  obtain ⟨c, hc, hc1, hc2⟩ := ok.nm
  obtain ⟨fp, fdp, hmp, hbp, Fp⟩ := fn_isPoint (P := P) (w := w) (base := base) (W := W) (Hh := Hh) T b.x b.y
  refine svs_cons (sv_ifno (evt_cast (evt_w (evw_or (evt_ne (ev_lenT T.zLen (ev_var 1)) ev_int) (fun _ => evw_or1 (evt_not (evt_val (ev_call (df_isName T c hc1 hc2) hr (eva_cons (ev_cast (ev_ixT (d := .str b.nm) (ev_var 1) ev_int) (by rw [hc])) eva_nil))))))) rfl))
    (svs_cons (sv_asg (ev_var 1) (tg_tup (tgs_cons (tg_name 2 scIsBall.nd) (tgs_cons (tg_name 3 scIsBall.nd) (tgs_cons (tg_name 4 scIsBall.nd) (tgs_cons (tg_name 5 scIsBall.nd) (tgs_cons (tg_name 6 scIsBall.nd) (tgs_cons (tg_name 7 scIsBall.nd) tgs_nil)))))) rfl))
    (svs_cons (sv_ifno (evt_cast (evt_w (evw_or (evt_not (evt_val (ev_meth T.cls hmp Fp hr hbp (ev_var 0) (eva_cons (ev_tup (evd_cons (ev_var 3) (evd_cons (ev_var 4) evd_nil))) eva_nil) fun pk => by
        simp only [List.lookup, show (("is_point" : Str) == "width") = false by decide +kernel, show (("is_point" : Str) == "height") = false by decide +kernel, show (("is_point" : Str) == "pockets") = false by decide +kernel])))
      (fun _ => evw_or1 (evt_not (evt_lele ev_int (ev_var 7) (ev_gint T.cMOST)))))) ?_))
    (svs_one (sv_ret' (ev_and (ev_inT (ns := [-1, 0, 1]) (ev_var 5) (ev_tup (evd_cons (ev_neg ev_int) (evd_cons ev_int (evd_cons ev_int evd_nil))))) fun _ => ev_and (ev_inT (ns := [-1, 0, 1]) (ev_var 6) (ev_tup (evd_cons (ev_neg ev_int) (evd_cons ev_int (evd_cons ev_int evd_nil))))) fun _ =>
      ev_one (ev_neD hr.units (ev_tup (evd_cons (ev_var 5) (evd_cons (ev_var 6) evd_nil))) (ev_tup (evd_cons ev_int (evd_cons ev_int evd_nil))))) ?_))))
  · rw [decide_eq_true ok.x0, decide_eq_true ok.x1, decide_eq_true ok.y0, decide_eq_true ok.y1, decide_eq_true ok.m0, decide_eq_true ok.m1]
    rfl
  · have h1 : decide (b.dx ∈ ([-1, 0, 1] : List Int)) = true := decide_eq_true (by simpa using ok.dx)
    have h2 : decide (b.dy ∈ ([-1, 0, 1] : List Int)) = true := decide_eq_true (by simpa using ok.dy)
    rw [eqv2, h1, h2, decide_eq_false ok.nz]
    rfl
theorem df_checkBall (T : Txt K mg C) (b : Ball) (ok : OkBall W Hh b) : Dfn P w K mg base "check_ball" 3 [tab C W Hh, dat b.d] pN := by
  exact dfn_ofN T.check_ball scCheckBall rfl (fun _ _ _ _ _ _ us hl => match us, hl with | [_, _], _ => rfl) fun f cdv A outer s' H E hr =>
    svs_one (sv_ifno (evt_cast (evt_not (evt_val (ev_call (df_isBall T b ok) hr (eva_cons (ev_var 0) (eva_cons (ev_var 1) eva_nil))))) rfl))
theorem df_partsOf (T : Txt K mg C) (b : Ball) : Dfn P w K mg base "parts_of" 1 [tab C W Hh, dat b.d] (pT [tInt3 W b.x b.dx, tInt3 Hh b.y b.dy]) := by
  refine dfn_of T.parts_of scPartsOf rfl (fun _ _ _ _ _ _ us hl => match us, hl with | [_, _], _ => rfl) fun f cdv A outer s' H E hr => ?_
  exact svs_one (sv_ret (ev_tup (evd_cons (ev_tup (evd_cons (ev_width T.cls T.nW (ev_var 0)) (evd_cons (ev_ixT (ev_var 1) ev_int) (evd_cons (ev_ixT (ev_var 1) ev_int) evd_nil))))
    (evd_cons (ev_tup (evd_cons (ev_height T.cls T.nH (ev_var 0)) (evd_cons (ev_ixT (ev_var 1) ev_int) (evd_cons (ev_ixT (ev_var 1) ev_int) evd_nil)))) evd_nil))))
theorem df_placeAt (T : Txt K mg C) (b : Ball) (ok : OkBall W Hh b) (hW : 0 < W) (hH : 0 < Hh) (t : Int) (ht : b.m ≤ t) : Dfn P w K mg base "place_at" 4 [tab C W Hh, dat b.d, pI t] (dat (pr2 (placeAt W Hh b t))) := by
  refine dfn_of T.place_at scPlaceAt rfl (fun _ _ _ _ _ _ us hl => match us, hl with | [_, _, _], _ => rfl) fun f cdv A outer s' H E hr => ?_
  refine svs_cons (sv_drop (ev_call (df_checkBall T b ok) hr (eva_cons (ev_var 0) (eva_cons (ev_var 1) eva_nil)))) (svs_cons (sv_ifno (evt_cast (evt_lt (ev_var 2) (ev_ixT (ev_var 1) ev_int)) (decide_eq_false (by omega))))
    (svs_one (sv_ret' (ev_tupleL T.zTuple (ev_lc (xs := ([(W, b.x, b.dx), (Hh, b.y, b.dy)] : List (Int × Int × Int))) (enc := fun q => tInt3 q.1 q.2.1 q.2.2) (pr := fun _ => true) (gd := fun q => .int (partAt q.1 q.2.1 q.2.2 (t - b.m)))
      [("size", 3), ("place", 4), ("step", 5)] scPlaceAt.nd (blkOk_by (N := nPlaceAt) (sc := defScope sPlaceAt) (by decide +kernel)) (evi_tup (ev_call (df_partsOf T b) (hr.mono (by decide)) (eva_cons (ev_var 0) (eva_cons (ev_var 1) eva_nil)))) (by decide)
      (fun x hx s H C cl fp => tg_tup (tgs_cons (tg_name 3 scPlaceAt.nd) (tgs_cons (tg_name 4 scPlaceAt.nd) (tgs_cons (tg_name 5 scPlaceAt.nd) tgs_nil))) rfl) (fun x hx s H C cl fp => evts_nil)
      (fun x hx _ s H C cl fp => ev_call (df_part T x.1 x.2.1 x.2.2 _ ?_) (hr.mono (by decide)) (eva_cons (ev_var 3) (eva_cons (ev_var 4) (eva_cons (ev_var 5) (eva_cons (ev_sub (ev_var 2) (ev_ixT (ev_var 1) ev_int)) eva_nil)))))
      (fun x hx => rfl) (Nat.le_of_ble_eq_true rfl))) ?_)))
  · have hx' : x = (W, b.x, b.dx) ∨ x = (Hh, b.y, b.dy) := by simpa using hx
    rcases hx' with rfl | rfl
    · exact hW
    · exact hH
  · rfl
end
end Cu
set_option Elab.async false
set_option linter.all false
set_option maxRecDepth 100000
set_option maxHeartbeats 2000000
/-! Plain arithmetic: the Euclid walk of inverse, two classes of remainders as one. -/
namespace Cu

structure ES where
  h : Nat
  l : Nat
  x : Int
  y : Int
def eStep (s : ES) : ES := ⟨s.l, s.h % s.l, s.y, s.x - ((s.h / s.l : Nat) : Int) * s.y⟩
def eIt (a m : Nat) : Nat → ES
  | 0 => ⟨m, a % m, 0, 1⟩
  | n + 1 => eStep (eIt a m n)
/-- what stands at each turn -/
structure EOk (a m : Nat) (s : ES) : Prop where
  hl : s.l < s.h
  hm : s.h ≤ m
  sg : (s.x ≤ 0 ∧ 0 ≤ s.y ∧ s.y * s.h - s.x * s.l = m) ∨ (0 ≤ s.x ∧ s.y ≤ 0 ∧ s.x * s.l - s.y * s.h = m)
  d1 : (m : Int) ∣ s.h - s.x * a
  d2 : (m : Int) ∣ s.l - s.y * a
  g : Nat.gcd s.h s.l = Nat.gcd m a
theorem eok0 (a m : Nat) (hm : 0 < m) : EOk a m (eIt a m 0) := by
  refine ⟨Nat.mod_lt _ hm, Nat.le_refl _, .inl ⟨Int.le_refl 0, by show (0 : Int) ≤ 1; decide, ?_⟩, ?_, ?_, ?_⟩
  · show (1 : Int) * (m : Int) - 0 * _ = m
    rw [Int.one_mul, Int.zero_mul, Int.sub_zero]
  · show (m : Int) ∣ (m : Int) - 0 * (a : Int)
    rw [Int.zero_mul, Int.sub_zero]
    exact Int.dvd_refl _
  · show (m : Int) ∣ ((a % m : Nat) : Int) - 1 * (a : Int)
    rw [Int.one_mul]
    refine ⟨-((a / m : Nat) : Int), ?_⟩
    have e := Nat.div_add_mod a m
    have e2 : ((m * (a / m) + a % m : Nat) : Int) = (a : Int) := by rw [e]
    rw [Int.natCast_add, Int.natCast_mul] at e2
    rw [Int.mul_neg]
    omega
  · show Nat.gcd m (a % m) = Nat.gcd m a
    rw [Nat.gcd_comm m (a % m), ← Nat.gcd_rec]
theorem eok_step {a m : Nat} {s : ES} (ok : EOk a m s) (hl : 0 < s.l) : EOk a m (eStep s) := by
  have e := Nat.div_add_mod s.h s.l
  have e2 : ((s.l * (s.h / s.l) + s.h % s.l : Nat) : Int) = (s.h : Int) := by rw [e]
  rw [Int.natCast_add, Int.natCast_mul] at e2
  have t0 : (0 : Int) ≤ ((s.h / s.l : Nat) : Int) := Int.natCast_nonneg _
  refine ⟨Nat.mod_lt _ hl, Nat.le_trans (Nat.le_of_lt ok.hl) ok.hm, ?_, ok.d2, ?_, ?_⟩
  · show (s.y ≤ 0 ∧ 0 ≤ s.x - ((s.h / s.l : Nat) : Int) * s.y ∧ (s.x - ((s.h / s.l : Nat) : Int) * s.y) * (s.l : Int) - s.y * ((s.h % s.l : Nat) : Int) = m) ∨
      (0 ≤ s.y ∧ s.x - ((s.h / s.l : Nat) : Int) * s.y ≤ 0 ∧ s.y * ((s.h % s.l : Nat) : Int) - (s.x - ((s.h / s.l : Nat) : Int) * s.y) * (s.l : Int) = m)
    generalize ((s.h / s.l : Nat) : Int) = t at *
    generalize ((s.h % s.l : Nat) : Int) = r at *
    have key : s.y * r + t * s.y * s.l = s.y * s.h := by
      rw [← e2, Int.mul_add, Int.mul_comm t s.y, Int.mul_assoc, Int.mul_comm t (s.l : Int)]
      omega
    rcases ok.sg with ⟨h1, h2, h3⟩ | ⟨h1, h2, h3⟩
    · refine .inr ⟨h2, ?_, ?_⟩
      · have := Int.mul_nonneg t0 h2
        omega
      · rw [Int.sub_mul]
        omega
    · refine .inl ⟨h2, ?_, ?_⟩
      · have : t * s.y ≤ 0 := Int.mul_nonpos_of_nonneg_of_nonpos t0 h2
        omega
      · rw [Int.sub_mul]
        omega
  · show (m : Int) ∣ ((s.h % s.l : Nat) : Int) - (s.x - ((s.h / s.l : Nat) : Int) * s.y) * (a : Int)
    have d := Int.dvd_sub ok.d1 (Int.dvd_mul_of_dvd_right (b := ((s.h / s.l : Nat) : Int)) ok.d2)
    have e3 : ((s.h % s.l : Nat) : Int) - (s.x - ((s.h / s.l : Nat) : Int) * s.y) * (a : Int) = (s.h - s.x * a) - ((s.h / s.l : Nat) : Int) * (s.l - s.y * a) := by
      generalize ((s.h / s.l : Nat) : Int) = t at *
      generalize ((s.h % s.l : Nat) : Int) = r at *
      rw [Int.sub_mul, Int.mul_sub, ← e2, Int.mul_assoc, Int.mul_comm t (s.l : Int)]
      omega
    rw [e3]
    exact d
  · show Nat.gcd s.l (s.h % s.l) = _
    rw [Nat.gcd_comm, ← Nat.gcd_rec, Nat.gcd_comm]
    exact ok.g
theorem eends (a m : Nat) : ∃ n, (eIt a m n).l = 0 ∧ ∀ i, i < n → 0 < (eIt a m i).l := by
  have key : ∀ k j, (eIt a m j).l ≤ k → (∀ i, i < j → 0 < (eIt a m i).l) → ∃ n, (eIt a m n).l = 0 ∧ ∀ i, i < n → 0 < (eIt a m i).l := by
    intro k
    induction k with
    | zero => exact fun j h1 h2 => ⟨j, by omega, h2⟩
    | succ k ih =>
      intro j h1 h2
      by_cases h : (eIt a m j).l = 0
      · exact ⟨j, h, h2⟩
      · refine ih (j + 1) ?_ fun i hi => ?_
        · show (eIt a m j).h % (eIt a m j).l ≤ k
          have := Nat.mod_lt (eIt a m j).h (show (eIt a m j).l > 0 by omega)
          omega
        · by_cases hj : i < j
          · exact h2 i hj
          · have : i = j := by omega
            subst this
            omega
  exact key _ 0 (Nat.le_refl _) fun i hi => absurd hi (Nat.not_lt_zero _)
noncomputable def eN (a m : Nat) : Nat := Classical.choose (eends a m)
theorem eN_end (a m : Nat) : (eIt a m (eN a m)).l = 0 := (Classical.choose_spec (eends a m)).1
theorem eN_pos (a m : Nat) {i : Nat} (h : i < eN a m) : 0 < (eIt a m i).l := (Classical.choose_spec (eends a m)).2 i h
theorem eok (a m : Nat) (hm : 0 < m) : ∀ i, i ≤ eN a m → EOk a m (eIt a m i)
  | 0, _ => eok0 a m hm
  | i + 1, h => eok_step (eok a m hm i (by omega)) (eN_pos a m (by omega))
/-- the turns' numbers stay small -/
theorem EOk.ylt {a m : Nat} {s : ES} (ok : EOk a m s) : s.y.natAbs ≤ m := by
  have h1 : (1 : Int) ≤ s.h := by have := ok.hl; omega
  have l0 : (0 : Int) ≤ s.l := Int.natCast_nonneg _
  rcases ok.sg with ⟨a1, a2, a3⟩ | ⟨a1, a2, a3⟩
  · have p1 : s.y * 1 ≤ s.y * s.h := Int.mul_le_mul_of_nonneg_left h1 a2
    have p2 : s.x * s.l ≤ 0 := Int.mul_nonpos_of_nonpos_of_nonneg a1 l0
    omega
  · have p1 : (-s.y) * 1 ≤ (-s.y) * s.h := Int.mul_le_mul_of_nonneg_left h1 (by omega)
    have p2 : 0 ≤ s.x * s.l := Int.mul_nonneg a1 l0
    rw [Int.neg_mul] at p1
    rw [Int.neg_mul] at p1
    omega
/-- what a number is to be multiplied by to give 1 -/
noncomputable def inv (a m : Nat) : Int := (eIt a m (eN a m)).x % (m : Int)
theorem inv_dvd {a m : Nat} (hm : 0 < m) (hg : Nat.gcd m a = 1) : (m : Int) ∣ 1 - inv a m * a := by
  have ok := eok a m hm _ (Nat.le_refl _)
  have hl := eN_end a m
  have hh : (eIt a m (eN a m)).h = 1 := by
    have g := ok.g
    rw [hl, Nat.gcd_zero_right, hg] at g
    exact g
  have d := ok.d1
  rw [hh] at d
  have d2 : (m : Int) ∣ ((eIt a m (eN a m)).x - (eIt a m (eN a m)).x % (m : Int)) * a := Int.dvd_mul_of_dvd_left (Int.dvd_self_sub_of_emod_eq rfl)
  have d3 := Int.dvd_add d d2
  have e : ((1 : Nat) : Int) - (eIt a m (eN a m)).x * a + ((eIt a m (eN a m)).x - (eIt a m (eN a m)).x % (m : Int)) * a = 1 - inv a m * a := by
    unfold inv
    rw [Int.sub_mul]
    omega
  rw [e] at d3
  exact d3
theorem inv_nn {a m : Nat} (hm : 0 < m) : 0 ≤ inv a m := Int.emod_nonneg _ (by omega)
theorem inv_lt {a m : Nat} (hm : 0 < m) : inv a m < m := Int.emod_lt_of_pos _ (by omega)

/-! ### two classes as one -/
/-- t is in the class (r, m) -/
def In (t : Int) (c : Int × Int) : Prop := c.2 ∣ t - c.1
/-- the class of the numbers in two classes -/
noncomputable def agr (p q : Int × Int) : Option (Int × Int) :=
  if (q.1 - p.1) % ((Nat.gcd p.2.natAbs q.2.natAbs : Nat) : Int) = 0 then
    some ((p.1 + (q.1 - p.1) / ((Nat.gcd p.2.natAbs q.2.natAbs : Nat) : Int) * inv (p.2 / ((Nat.gcd p.2.natAbs q.2.natAbs : Nat) : Int)).toNat (q.2 / ((Nat.gcd p.2.natAbs q.2.natAbs : Nat) : Int)).toNat % (q.2 / ((Nat.gcd p.2.natAbs q.2.natAbs : Nat) : Int)) * p.2) %
      (p.2 * (q.2 / ((Nat.gcd p.2.natAbs q.2.natAbs : Nat) : Int))), p.2 * (q.2 / ((Nat.gcd p.2.natAbs q.2.natAbs : Nat) : Int)))
  else none
/-- a class of remainders below 2 ^ n -/
structure Cl (n : Nat) (c : Int × Int) : Prop where
  r0 : 0 ≤ c.1
  r1 : c.1 < c.2
  lt : c.2 < 2 ^ n
theorem Cl.pos {n : Nat} {c : Int × Int} (h : Cl n c) : 0 < c.2 := Int.lt_of_le_of_lt h.r0 h.r1
theorem Cl.mono {n m : Nat} {c : Int × Int} (h : Cl n c) (le : n ≤ m) : Cl m c := ⟨h.r0, h.r1, Int.lt_of_lt_of_le h.lt (by
  have := Nat.pow_le_pow_right (n := 2) (by decide) le
  have e1 : ((2 ^ n : Nat) : Int) = 2 ^ n := by simp
  have e2 : ((2 ^ m : Nat) : Int) = 2 ^ m := by simp
  rw [← e1, ← e2]
  exact Int.ofNat_le.mpr this)⟩
section
variable {p q : Int × Int}
theorem gcd_facts (hp : 0 < p.2) (hq : 0 < q.2) : ∃ g m b : Nat, ((Nat.gcd p.2.natAbs q.2.natAbs : Nat) : Int) = g ∧ 0 < g ∧ 0 < m ∧ 0 < b ∧ p.2 = g * m ∧ q.2 = g * b ∧ Nat.gcd b m = 1 ∧
    p.2 / (g : Int) = m ∧ q.2 / (g : Int) = b := by
  have g0 : 0 < Nat.gcd p.2.natAbs q.2.natAbs := Nat.gcd_pos_of_pos_left _ (by omega)
  obtain ⟨m, hm⟩ := Nat.gcd_dvd_left p.2.natAbs q.2.natAbs
  obtain ⟨b, hb⟩ := Nat.gcd_dvd_right p.2.natAbs q.2.natAbs
  have m0 : 0 < m := by
    rcases Nat.eq_zero_or_pos m with z | z
    · rw [z, Nat.mul_zero] at hm
      omega
    · exact z
  have b0 : 0 < b := by
    rcases Nat.eq_zero_or_pos b with z | z
    · rw [z, Nat.mul_zero] at hb
      omega
    · exact z
  have em : p.2 = ((Nat.gcd p.2.natAbs q.2.natAbs : Nat) : Int) * m := by
    rw [← Int.natCast_mul, ← hm]
    omega
  have eb : q.2 = ((Nat.gcd p.2.natAbs q.2.natAbs : Nat) : Int) * b := by
    rw [← Int.natCast_mul, ← hb]
    omega
  have gne : ((Nat.gcd p.2.natAbs q.2.natAbs : Nat) : Int) ≠ 0 := by omega
  refine ⟨_, m, b, rfl, g0, m0, b0, em, eb, ?_, ?_, ?_⟩
  · have h := Nat.gcd_mul_left (Nat.gcd p.2.natAbs q.2.natAbs) b m
    rw [← hm, ← hb, Nat.gcd_comm q.2.natAbs] at h
    exact (Nat.eq_of_mul_eq_mul_left g0 (by omega)).symm
  · exact Int.ediv_eq_of_eq_mul_right gne em
  · exact Int.ediv_eq_of_eq_mul_right gne eb
theorem agr_none (hp : 0 < p.2) (hq : 0 < q.2) (h : agr p q = none) (t : Int) : ¬ (In t p ∧ In t q) := by
  rintro ⟨⟨u, hu⟩, ⟨v, hv⟩⟩
  unfold agr at h
  split at h
  · cases h
  · rename_i hn
    obtain ⟨g, m, b, eg, g0, m0, b0, em, eb, _⟩ := gcd_facts hp hq
    rw [eg] at hn
    refine hn (Int.emod_eq_zero_of_dvd ?_)
    rw [em] at hu
    rw [eb] at hv
    refine ⟨m * u - b * v, ?_⟩
    rw [Int.mul_sub, ← Int.mul_assoc, ← Int.mul_assoc]
    omega
theorem agr_some {c : Int × Int} (hp : 0 < p.2) (hq : 0 < q.2) (h : agr p q = some c) : (∀ t, In t c ↔ In t p ∧ In t q) ∧ 0 ≤ c.1 ∧ c.1 < c.2 ∧ c.2 ≤ p.2 * q.2 := by
  obtain ⟨g, m, b, eg, g0, m0, b0, em, eb, co, dm, db⟩ := gcd_facts hp hq
  unfold agr at h
  rw [eg] at h
  split at h
  · rename_i hz
    rw [dm, db] at h
    have hc := Option.some.inj h
    subst hc
    simp only [Int.toNat_natCast]
    obtain ⟨z, hz⟩ := Int.dvd_of_emod_eq_zero hz
    have gne : (g : Int) ≠ 0 := by omega
    have ez : (q.1 - p.1) / (g : Int) = z := Int.ediv_eq_of_eq_mul_right gne hz
    rw [ez]
    have hi : (b : Int) ∣ 1 - inv m b * m := inv_dvd b0 co
    generalize inv m b = i at *
    have W0 : 0 < p.2 * (b : Int) := Int.mul_pos hp (by omega)
    -- the candidate
    have hr : (b : Int) ∣ z * i - z * i % b := Int.dvd_self_sub_of_emod_eq rfl
    generalize z * i % (b : Int) = r at *
    have d1 : p.2 ∣ p.1 + r * p.2 - p.1 := ⟨r, by rw [Int.mul_comm p.2 r]; omega⟩
    have d2 : q.2 ∣ p.1 + r * p.2 - q.1 := by
      -- = g (r m - z), and b divides r m - z
      have e1 : p.1 + r * p.2 - q.1 = g * (r * m - z) := by
        rw [em, Int.mul_sub, ← hz, Int.mul_comm (g : Int) m, ← Int.mul_assoc, Int.mul_comm (r * m)]
        omega
      have e2 : (b : Int) ∣ r * m - z := by
        have a1 := Int.dvd_mul_of_dvd_left (c := (m : Int)) hr
        have a2 := Int.dvd_mul_of_dvd_right (b := z) hi
        have a3 := Int.dvd_neg.mpr (Int.dvd_add a1 a2)
        have e3 : -((z * i - r) * m + z * (1 - i * m)) = r * m - z := by
          rw [Int.sub_mul, Int.mul_sub, Int.mul_one, Int.mul_assoc]
          omega
        rw [e3] at a3
        exact a3
      rw [e1, eb]
      exact Int.mul_dvd_mul_left _ e2
    generalize p.1 + r * p.2 = r0 at *
    have dW : p.2 * (b : Int) ∣ r0 - r0 % (p.2 * b) := Int.dvd_self_sub_of_emod_eq rfl
    have dp : p.2 ∣ p.2 * (b : Int) := Int.dvd_mul_right _ _
    have dq : q.2 ∣ p.2 * (b : Int) := ⟨m, by
      rw [em, eb, Int.mul_assoc, Int.mul_assoc, Int.mul_comm (m : Int) b]⟩
    refine ⟨fun t => ⟨fun ht => ⟨?_, ?_⟩, fun ht => ?_⟩, Int.emod_nonneg _ (by omega), Int.emod_lt_of_pos _ W0, ?_⟩
    · have ht' : p.2 * (b : Int) ∣ t - r0 % (p.2 * b) := ht
      have a := Int.dvd_trans dp (Int.dvd_sub ht' dW)
      have a2 := Int.dvd_add a d1
      show p.2 ∣ t - p.1
      have e : t - r0 % (p.2 * ↑b) - (r0 - r0 % (p.2 * ↑b)) + (r0 - p.1) = t - p.1 := by omega
      rw [e] at a2
      exact a2
    · have ht' : p.2 * (b : Int) ∣ t - r0 % (p.2 * b) := ht
      have a := Int.dvd_trans dq (Int.dvd_sub ht' dW)
      have a2 := Int.dvd_add a d2
      show q.2 ∣ t - q.1
      have e : t - r0 % (p.2 * ↑b) - (r0 - r0 % (p.2 * ↑b)) + (r0 - q.1) = t - q.1 := by omega
      rw [e] at a2
      exact a2
    · obtain ⟨h1, h2⟩ := ht
      have h1' : p.2 ∣ t - p.1 := h1
      have h2' : q.2 ∣ t - q.1 := h2
      obtain ⟨u, hu⟩ := Int.dvd_sub h1' d1
      have h3 := Int.dvd_sub h2' d2
      have e1 : t - p.1 - (r0 - p.1) = t - r0 := by omega
      have e2 : t - q.1 - (r0 - q.1) = t - r0 := by omega
      rw [e1] at hu
      rw [e2, hu, em, eb, Int.mul_assoc] at h3
      have h4 : (b : Int) ∣ m * u := Int.dvd_of_mul_dvd_mul_left gne h3
      have h5 : (b : Int) ∣ u := by
        have a1 := Int.dvd_mul_of_dvd_right (b := u) hi
        have a2 := Int.dvd_mul_of_dvd_right (b := i) h4
        have a3 := Int.dvd_add a1 a2
        have e3 : u * (1 - i * m) + i * (m * u) = u := by
          have e4 : u * (i * m) = i * (m * u) := by rw [Int.mul_left_comm u i m, Int.mul_comm u m]
          rw [Int.mul_sub, Int.mul_one, e4]
          omega
        rw [e3] at a3
        exact a3
      have h6 : p.2 * (b : Int) ∣ t - r0 := by
        rw [hu]
        exact Int.mul_dvd_mul_left _ h5
      show p.2 * (b : Int) ∣ t - r0 % (p.2 * b)
      have a := Int.dvd_add h6 dW
      have e : t - r0 + (r0 - r0 % (p.2 * ↑b)) = t - r0 % (p.2 * ↑b) := by omega
      rw [e] at a
      exact a
    · show p.2 * (b : Int) ≤ p.2 * q.2
      refine Int.mul_le_mul_of_nonneg_left ?_ (by omega)
      rw [eb]
      have : (1 : Int) * b ≤ g * b := Int.mul_le_mul_of_nonneg_right (by omega) (by omega)
      omega
  · cases h
end
end Cu
set_option Elab.async false
set_option linter.all false
set_option maxRecDepth 100000
set_option maxHeartbeats 2000000
namespace Cu
open PySem PySem.Spec PyProof.Rows L2

def optD : Option (Int × Int) → PyData
  | none => .none
  | some c => pr2 c
theorem lt_pow {i : Int} {n : Nat} (h0 : 0 ≤ i) (h : i < 2 ^ n) : i.natAbs < 2 ^ n := by
  have e1 : ((2 ^ n : Nat) : Int) = 2 ^ n := by simp
  omega
theorem mulW {i j : Int} {n : Nat} (h0 : 0 < n) (hn : n ≤ 400000) (hi : i.natAbs < 2 ^ n) (hj : j.natAbs < 2 ^ n) : CMulW i j := wide_mul hi hj h0 h0 (by omega)
theorem divW {i j : Int} {n : Nat} (h0 : 0 < n) (hn : n ≤ 9000) (hj : 0 < j) (h : j < 2 ^ n) : CDivW i j := wide_div hj (lt_pow (by omega) h) h0 hn
section
variable {P : Program} {w : World} {K : PySem.W.Frag} {mg : Str → Option Value} {base : Heap} {C : Addr} {W Hh : Int}
theorem df_inverse (T : Txt K mg C) (a m n : Nat) (hm : 0 < m) (h0 : 0 < n) (hn : n ≤ 9000) (hl : m < 2 ^ n) : Dfn P w K mg base "inverse" 1 [pI a, pI m] (pI (inv a m)) := by
  refine dfn_of T.inverse_ scInverse rfl (fun _ _ _ _ _ _ us hl => match us, hl with | [_, _], _ => rfl) fun f cdv A outer s' H E hr => ?_
  refine svs_cons (sv_par 2 3 scInverse.nd (eva_cons (ev_var 1) (eva_cons (ev_mod (ev_var 0) (ev_var 1) (by omega)) eva_nil)) (by decide)) (svs_cons (sv_asg (ev_tup (evd_cons ev_int (evd_cons ev_int evd_nil))) (tg_tup (tgs_cons (tg_name 4 scInverse.nd) (tgs_cons (tg_name 5 scInverse.nd) tgs_nil)) rfl))
    (svs_cons (sv_while PassesOwn.never (fun i => [some (pI a), some (pI m), some (pI (eIt a m i).h), some (pI (eIt a m i).l), some (pI (eIt a m i).x), some (pI (eIt a m i).y), none]) (eN a m) ?_ (fun i hi => evt_cast (evt_int (ev_var 3)) ?_) (evt_cast (evt_int (ev_var 3)) ?_)
      (fun i hi => svs_weak_end (svs_cons (sv_set 6 scInverse.nd (ev_divW (ev_var 2) (ev_var 3) ?_)) (svs_cons (sv_par 2 3 scInverse.nd (eva_cons (ev_var 3) (eva_cons (ev_sub (ev_var 2) (ev_mulW (ev_var 6) (ev_var 3) ?_)) eva_nil)) (by decide))
        (svs_one (sv_par 4 5 scInverse.nd (eva_cons (ev_var 5) (eva_cons (ev_sub (ev_var 4) (ev_mulW (ev_var 6) (ev_var 5) ?_)) eva_nil)) (by decide))))) ?_))
    (svs_one (sv_ret (ev_mod (ev_var 4) (ev_var 1) (by omega))))))
  · refine ⟨rfl, rfl, rfl, ?_, rfl, rfl, trivial⟩
    show pI ((a : Int) % (m : Int)) = pI (((a % m : Nat) : Int))
    rw [Int.natCast_emod]
  · have := eN_pos a m hi
    exact bne_iff_ne.mpr (by omega)
  · rw [eN_end]
    rfl
  · have ok := eok a m hm i (by omega)
    have := eN_pos a m hi
    exact wide_div (b := n) (by omega) (by have := ok.hl; have := ok.hm; omega) h0 hn
  · have ok := eok a m hm i (by omega)
    refine mulW h0 (by omega) ?_ (by have := ok.hl; have := ok.hm; omega)
    rw [← Int.natCast_ediv, Int.natAbs_natCast]
    have := Nat.div_le_self (eIt a m i).h (eIt a m i).l
    have := ok.hm
    omega
  · have ok := eok a m hm i (by omega)
    refine mulW h0 (by omega) ?_ (by have := ok.ylt; omega)
    rw [← Int.natCast_ediv, Int.natAbs_natCast]
    have := Nat.div_le_self (eIt a m i).h (eIt a m i).l
    have := ok.hm
    omega
  · refine ⟨rfl, rfl, rfl, ?_, rfl, ?_, trivial⟩
    · show pI (((eIt a m i).h : Int) - ((eIt a m i).h : Int) / ((eIt a m i).l : Int) * ((eIt a m i).l : Int)) = pI ((((eIt a m i).h % (eIt a m i).l : Nat)) : Int)
      have e := Nat.div_add_mod (eIt a m i).h (eIt a m i).l
      have e2 : (((eIt a m i).l * ((eIt a m i).h / (eIt a m i).l) + (eIt a m i).h % (eIt a m i).l : Nat) : Int) = ((eIt a m i).h : Int) := by rw [e]
      rw [Int.natCast_add, Int.natCast_mul, Int.mul_comm] at e2
      rw [← Int.natCast_ediv]
      congr 2
      omega
    · show pI ((eIt a m i).x - ((eIt a m i).h : Int) / ((eIt a m i).l : Int) * (eIt a m i).y) = pI ((eIt a m i).x - (((eIt a m i).h / (eIt a m i).l : Nat) : Int) * (eIt a m i).y)
      rw [Int.natCast_ediv]
theorem df_agreed (T : Txt K mg C) (p q : Int × Int) (n : Nat) (h0 : 0 < n) (hn : n ≤ 4000) (hp : Cl n p) (hq : Cl n q) : Dfn P w K mg base "agreed" 2 [dat (pr2 p), dat (pr2 q)] (dat (optD (agr p q))) := by
  obtain ⟨g, m, b, eg, g0, m0, b0, em, eb, co, dm, db⟩ := gcd_facts hp.pos hq.pos
  have e1 : ((2 ^ n : Nat) : Int) = 2 ^ n := by simp
  have gq : (g : Int) ≤ q.2 := by
    rw [eb]
    have : (g : Int) * 1 ≤ g * b := Int.mul_le_mul_of_nonneg_left (by omega) (by omega)
    omega
  have bq : (b : Int) ≤ q.2 := by
    rw [eb]
    have : (1 : Int) * b ≤ g * b := Int.mul_le_mul_of_nonneg_right (by omega) (by omega)
    omega
  have hq2 := hq.lt
  have hp2 := hp.lt
  have bn : b < 2 ^ n := by omega
  have sub : (q.1 - p.1).natAbs < 2 ^ n := by
    have := hp.r0
    have := hp.r1
    have := hq.r0
    have := hq.r1
    omega
  refine dfn_of T.agreed scAgreed rfl (fun _ _ _ _ _ _ us hl => match us, hl with | [_, _], _ => rfl) fun f cdv A outer s' H E hr => ?_
  refine svs_cons (sv_asg (ev_var 0) (tg_tup (tgs_cons (tg_name 2 scAgreed.nd) (tgs_cons (tg_name 3 scAgreed.nd) tgs_nil)) rfl)) (svs_cons (sv_asg (ev_var 1) (tg_tup (tgs_cons (tg_name 4 scAgreed.nd) (tgs_cons (tg_name 5 scAgreed.nd) tgs_nil)) rfl))
    (svs_cons (sv_set 6 scAgreed.nd (ev_cast (ev_gcd T.gcd (ev_var 3) (ev_var 5)) (congrArg pI eg)))
    (svs_if (evt_ne (ev_mod (ev_sub (ev_var 4) (ev_var 2)) (ev_var 6) (by omega)) ev_int) (fun h => svs_one (sv_ret' ev_non ?_)) fun h =>
    (svs_cons (sv_set 5 scAgreed.nd (ev_cast (ev_divW (ev_var 5) (ev_var 6) (divW h0 (by omega) (by omega) (by omega))) (congrArg pI db)))
    (svs_cons (sv_set 7 scAgreed.nd (ev_mod (ev_mulW (ev_divW (ev_sub (ev_var 4) (ev_var 2)) (ev_var 6) (divW h0 (by omega) (by omega) (by omega)))
        (ev_call (df_inverse T m b n b0 h0 (by omega) bn) hr (eva_cons (ev_cast (ev_divW (ev_var 3) (ev_var 6) (divW h0 (by omega) (by omega) (by omega))) (congrArg pI dm)) (eva_cons (ev_var 5) eva_nil))) ?_) (ev_var 5) (by omega)))
    (svs_cons (sv_set 8 scAgreed.nd (ev_mulW (ev_var 3) (ev_var 5) ?_))
    (svs_one (sv_ret' (ev_tup (evd_cons (ev_mod (ev_add (ev_var 2) (ev_mulW (ev_var 7) (ev_var 3) ?_)) (ev_var 8) ?_) (evd_cons (ev_var 8) evd_nil))) ?_))))))))
  · unfold agr
    rw [eg, if_neg (ndTrue h)]
    rfl
  · obtain ⟨z, hz⟩ := Int.dvd_of_emod_eq_zero (ndFalse h)
    have gne : (g : Int) ≠ 0 := by omega
    rw [show (q.1 - p.1) / (g : Int) = z from Int.ediv_eq_of_eq_mul_right gne hz]
    refine mulW h0 (by omega) ?_ ?_
    · have a1 : (q.1 - p.1).natAbs = g * z.natAbs := by rw [hz, Int.natAbs_mul, Int.natAbs_natCast]
      have a2 : 1 * z.natAbs ≤ g * z.natAbs := Nat.mul_le_mul_right _ g0
      omega
    · have i0 := inv_nn (a := m) b0
      have i1 := inv_lt (a := m) b0
      omega
  · have := hp.pos
    exact mulW h0 (by omega) (lt_pow (by omega) hp2) (by omega)
  · have := hp.pos
    refine mulW h0 (by omega) ?_ (lt_pow (by omega) hp2)
    have r0 := Int.emod_nonneg ((q.1 - p.1) / (g : Int) * inv m b) (show (b : Int) ≠ 0 by omega)
    have r1 := Int.emod_lt_of_pos ((q.1 - p.1) / (g : Int) * inv m b) (show (0 : Int) < b by omega)
    omega
  · exact Int.mul_pos hp.pos (by omega)
  · unfold agr
    rw [eg, if_pos (ndFalse h), dm, db]
    simp only [Int.toNat_natCast]
    rfl
end
end Cu
set_option Elab.async false
set_option linter.all false
set_option maxRecDepth 100000
set_option maxHeartbeats 2000000
namespace Cu
open PySem PySem.Spec PyProof.Rows L2

/-! ### classes of two parts, of two balls, of several -/
noncomputable def both (as bs : List (Int × Int)) : List (Int × Int) := (as.flatMap fun a => bs.map (agr a)).filterMap id
theorem filter_opt : ∀ l : List (Option (Int × Int)), (l.filter Option.isSome).map optD = (l.filterMap id).map pr2
  | [] => rfl
  | none :: l => by
    have ih := filter_opt l
    rw [List.filter_cons, List.filterMap_cons]
    exact ih
  | some c :: l => by
    have ih := filter_opt l
    rw [List.filter_cons, List.filterMap_cons]
    show pr2 c :: _ = pr2 c :: _
    rw [ih]
theorem mem_both {as bs : List (Int × Int)} {c : Int × Int} : c ∈ both as bs ↔ ∃ a ∈ as, ∃ b ∈ bs, agr a b = some c := by
  unfold both
  rw [List.mem_filterMap]
  constructor
  · rintro ⟨o, h, e⟩
    obtain ⟨a, ha, h⟩ := List.mem_flatMap.mp h
    obtain ⟨b, hb, h⟩ := List.mem_map.mp h
    exact ⟨a, ha, b, hb, h.trans e⟩
  · rintro ⟨a, ha, b, hb, h⟩
    exact ⟨some c, List.mem_flatMap.mpr ⟨a, ha, List.mem_map.mpr ⟨b, hb, h⟩⟩, rfl⟩
theorem len_flat (as bs : List (Int × Int)) : (as.flatMap fun a => bs.map (agr a)).length = as.length * bs.length := by
  induction as with
  | nil => simp
  | cons a as ih =>
    rw [List.flatMap_cons, List.length_append, List.length_map, ih, List.length_cons, Nat.add_mul, Nat.one_mul, Nat.add_comm]
theorem both_len (as bs : List (Int × Int)) : (both as bs).length ≤ as.length * bs.length := by
  rw [← len_flat]
  exact List.length_filterMap_le _ _
theorem pow_add' (a b : Nat) : (2 : Int) ^ (a + b) = 2 ^ a * 2 ^ b := Int.pow_add ..
theorem agr_cl {a b : Nat} {p q c : Int × Int} (hp : Cl a p) (hq : Cl b q) (h : agr p q = some c) : Cl (a + b) c := by
  obtain ⟨_, h0, h1, h2⟩ := agr_some hp.pos hq.pos h
  refine ⟨h0, h1, Int.lt_of_le_of_lt h2 ?_⟩
  rw [pow_add']
  have p0 : (0 : Int) < 2 ^ b := Int.lt_trans hq.pos hq.lt
  exact Int.lt_of_le_of_lt (Int.mul_le_mul_of_nonneg_left (Int.le_of_lt hq.lt) (Int.le_of_lt hp.pos)) (Int.mul_lt_mul_of_pos_right hp.lt p0)
theorem both_cl {a b : Nat} {as bs : List (Int × Int)} (h1 : ∀ c ∈ as, Cl a c) (h2 : ∀ c ∈ bs, Cl b c) : ∀ c ∈ both as bs, Cl (a + b) c := fun c hc => by
  obtain ⟨p, hp, q, hq, h⟩ := mem_both.mp hc
  exact agr_cl (h1 p hp) (h2 q hq) h
theorem in_both {as bs : List (Int × Int)} (h1 : ∀ c ∈ as, 0 < c.2) (h2 : ∀ c ∈ bs, 0 < c.2) (t : Int) : (∃ c ∈ both as bs, In t c) ↔ (∃ c ∈ as, In t c) ∧ ∃ c ∈ bs, In t c := by
  constructor
  · rintro ⟨c, hc, ht⟩
    obtain ⟨p, hp, q, hq, h⟩ := mem_both.mp hc
    obtain ⟨e, _⟩ := agr_some (h1 p hp) (h2 q hq) h
    exact ⟨⟨p, hp, ((e t).mp ht).1⟩, q, hq, ((e t).mp ht).2⟩
  · rintro ⟨⟨p, hp, h3⟩, q, hq, h4⟩
    cases h : agr p q with
    | none => exact absurd ⟨h3, h4⟩ (agr_none (h1 p hp) (h2 q hq) h t)
    | some c =>
      obtain ⟨e, _⟩ := agr_some (h1 p hp) (h2 q hq) h
      exact ⟨c, mem_both.mpr ⟨p, hp, q, hq, h⟩, (e t).mpr ⟨h3, h4⟩⟩
def partCl (n p s b g mv bg : Int) (half : Bool) : List (Int × Int) :=
  if s = 0 ∧ mv = 0 then (if p = g then [(0, 1)] else [])
  else if s ≠ 0 ∧ mv ≠ 0 then (if half then halfMoving n (offsetOf n p s b) (offsetOf n g mv bg) else metMoving n (offsetOf n p s b) (offsetOf n g mv bg))
  else if half then []
  else if s ≠ 0 then metStanding n (offsetOf n p s b) g
  else metStanding n (offsetOf n g mv bg) p
theorem cl01 (n : Nat) (h : 0 < n) : Cl n (0, 1) := ⟨Int.le_refl 0, by show (0 : Int) < 1; decide, by
  have := Nat.pow_le_pow_right (n := 2) (by decide) (show 1 ≤ n from h)
  have e1 : ((2 ^ n : Nat) : Int) = 2 ^ n := by simp
  show (1 : Int) < 2 ^ n
  rw [← e1]
  omega⟩
theorem partCl_cl {n p s b g mv bg : Int} {half : Bool} (hn : 0 < n) (hz : n ≤ 10 ^ 30) : ∀ c ∈ partCl n p s b g mv bg half, Cl 128 c := by
  have z1 : n < 2 ^ 128 := Int.lt_of_le_of_lt hz (by decide)
  have z2 : 2 * n < 2 ^ 128 := Int.lt_of_le_of_lt (b := 2 * 10 ^ 30) (by omega) (by decide)
  have m1 : ∀ x : Int, Cl 128 (x % n, n) := fun x => ⟨Int.emod_nonneg _ (by omega), Int.emod_lt_of_pos _ hn, z1⟩
  have m2 : ∀ x : Int, Cl 128 (x % (2 * n), 2 * n) := fun x => ⟨Int.emod_nonneg _ (by omega), Int.emod_lt_of_pos _ (by omega), z2⟩
  have one : Cl 128 (0, 1) := cl01 128 (by decide)
  have st : ∀ m g, ∀ c ∈ metStanding n m g, Cl 128 c := fun m g c hc => by
    unfold metStanding at hc
    split at hc <;> simp only [List.mem_cons, List.not_mem_nil, or_false] at hc
    · rw [hc]
      exact m2 _
    · rcases hc with rfl | rfl
      · exact m2 _
      · exact m2 _
  intro c hc
  unfold partCl at hc
  split at hc
  · split at hc
    · rw [List.mem_singleton.mp hc]
      exact one
    · cases hc
  · split at hc
    · split at hc
      · unfold halfMoving at hc
        split at hc
        · rw [List.mem_singleton.mp hc]
          exact one
        · split at hc
          · cases hc
          · rw [List.mem_singleton.mp hc]
            exact m1 _
      · unfold metMoving at hc
        split at hc
        · rw [List.mem_singleton.mp hc]
          exact one
        · split at hc
          · cases hc
          · rw [List.mem_singleton.mp hc]
            exact m1 _
    · split at hc
      · cases hc
      · split at hc
        · exact st _ _ c hc
        · exact st _ _ c hc
theorem partCl_len (n p s b g mv bg : Int) (half : Bool) : (partCl n p s b g mv bg half).length ≤ 2 := by
  unfold partCl metStanding metMoving halfMoving
  repeat' split
  all_goals simp
noncomputable def pairCl (w h : Int) (a b : Ball) (half : Bool) : List (Int × Int) :=
  both (both [(0, 1)] (partCl w a.x a.dx a.m b.x b.dx b.m half)) (partCl h a.y a.dy a.m b.y b.dy b.m half)
theorem pairCl_cl {w h : Int} {a b : Ball} {half : Bool} (hw : 0 < w) (hw2 : w ≤ 10 ^ 30) (hh : 0 < h) (hh2 : h ≤ 10 ^ 30) : ∀ c ∈ pairCl w h a b half, Cl 300 c := fun c hc =>
  (both_cl (both_cl (a := 1) (fun c hc => by rw [List.mem_singleton.mp hc]; exact cl01 1 (by decide)) (partCl_cl hw hw2)) (partCl_cl hh hh2) c hc).mono (by decide)
theorem pairCl_len (w h : Int) (a b : Ball) (half : Bool) : (pairCl w h a b half).length ≤ 4 := by
  have h1 := both_len [(0, 1)] (partCl w a.x a.dx a.m b.x b.dx b.m half)
  have h2 := partCl_len w a.x a.dx a.m b.x b.dx b.m half
  have h3 := partCl_len h a.y a.dy a.m b.y b.dy b.m half
  have h4 := both_len (both [(0, 1)] (partCl w a.x a.dx a.m b.x b.dx b.m half)) (partCl h a.y a.dy a.m b.y b.dy b.m half)
  rw [List.length_singleton, Nat.one_mul] at h1
  have h5 := Nat.mul_le_mul (Nat.le_trans h1 h2) h3
  exact Nat.le_trans h4 h5
/-- the first i of the others, with the first ball -/
noncomputable def togCl (w h : Int) (a : Ball) : List Ball → List (Int × Int)
  | [] => [(0, 1)]
  | b :: r => both (togCl w h a r) (pairCl w h a b false)
theorem togCl_cl {w h : Int} {a : Ball} (hw : 0 < w) (hw2 : w ≤ 10 ^ 30) (hh : 0 < h) (hh2 : h ≤ 10 ^ 30) : ∀ (bs : List Ball), ∀ c ∈ togCl w h a bs, Cl (300 * bs.length + 1) c
  | [], c, hc => by
    rw [List.mem_singleton.mp hc]
    exact cl01 1 (by decide)
  | b :: r, c, hc => (both_cl (togCl_cl hw hw2 hh hh2 r) (pairCl_cl hw hw2 hh hh2) c hc).mono (by rw [List.length_cons]; omega)
theorem togCl_len (w h : Int) (a : Ball) : ∀ (bs : List Ball), (togCl w h a bs).length ≤ 4 ^ bs.length
  | [] => by simp [togCl]
  | b :: r => by
    have h1 := togCl_len w h a r
    have h2 := pairCl_len w h a b false
    have h3 := Nat.mul_le_mul h1 h2
    exact Nat.le_trans (both_len _ _) (by rw [List.length_cons, Nat.pow_succ]; exact h3)
def sortP (l : List (Int × Int)) : List (Int × Int) := l.mergeSort (fun p q => !SrtO.lexB q p)
theorem sortP_perm (l : List (Int × Int)) : (sortP l).Perm l := List.mergeSort_perm _ _
theorem sortP_sorted (l : List (Int × Int)) : (sortP l).Pairwise (fun p q => SrtO.lexB q p = false) := by
  have h := List.pairwise_mergeSort (le := fun p q : Int × Int => !SrtO.lexB q p) (fun a b c h1 h2 => by
    have h1' : SrtO.lexB b a = false := by simpa using h1
    have h2' : SrtO.lexB c b = false := by simpa using h2
    have a1 := SrtO.lexB_no.mp h1'
    have a2 := SrtO.lexB_no.mp h2'
    have : SrtO.lexB c a = false := SrtO.lexB_no.mpr (by omega)
    simp [this]) (fun a b => by
    cases h1 : SrtO.lexB b a with
    | false => simp
    | true =>
      have a1 := SrtO.lexB_iff.mp h1
      have : SrtO.lexB a b = false := SrtO.lexB_no.mpr (by omega)
      simp [this]) l
  exact h.imp fun h => by simpa using h
noncomputable def fromMin (cs : List (Int × Int)) (t : Int) : List (Int × Int) := sortP (cs.map fun c => (t + (c.1 - t) % c.2, c.2))
noncomputable def halfs (w h : Int) (a b : Ball) : List (Int × Int) := fromMin (pairCl w h a b true) (max a.m b.m)
section
variable {P : Program} {w : World} {K : PySem.W.Frag} {mg : Str → Option Value} {base : Heap} {C : Addr} {W Hh : Int}
theorem df_both (T : Txt K mg C) (as bs : List (Int × Int)) (n : Nat) (h0 : 0 < n) (hn : n ≤ 4000) (ha : ∀ c ∈ as, Cl n c) (hb : ∀ c ∈ bs, Cl n c) (hz : as.length * bs.length ≤ 1000) :
    Dfn P w K mg base "both_classes" 3 [pL (as.map pr2), pL (bs.map pr2)] (pL ((both as bs).map pr2)) := by
  refine dfn_of T.both_classes scBothClasses rfl (fun _ _ _ _ _ _ us hl => match us, hl with | [_, _], _ => rfl) fun f cdv A outer s' H E hr => ?_
  refine svs_cons (sv_setLc2 (xs := as) (ys := bs) (ex := pr2) (ey := pr2) (gd := fun a b => optD (agr a b)) 3 4 1 2 [("one", 3), ("other", 4)] scBothClasses.nd (blkOk_by (N := nBothClasses) (sc := defScope sBothClasses) (by decide +kernel))
    (evi_list (ev_var 0)) (fun s H C cl fp => evj_list 1) (fun s H C cl fp => pg_name scBothClasses.nd rfl (Or.inl rfl) (.inr rfl)) (fun s H C cl fp => pg_name scBothClasses.nd rfl (Or.inl rfl) (.inr rfl))
    (fun x hx y hy s H C cl fp => ev_call (df_agreed T x y n h0 hn (ha x hx) (hb y hy)) hr (eva_cons (ev_var 3) (eva_cons (ev_var 4) eva_nil))) (fun x hx y hy => ?_) (fun x hx => rfl) (by decide) (by decide) (by decide) (by decide) (by decide) rfl hz
    (sw_true rfl rfl rfl (by decide +kernel)))
    (svs_one (sv_ret' (ev_lc (xs := as.flatMap fun a => bs.map (agr a)) (enc := optD) (pr := Option.isSome) (gd := optD) [("one", 3)] scBothClasses.nd (blkOk_by (N := nBothClasses) (sc := defScope sBothClasses) (by decide +kernel))
      (evi_list (ev_cast (ev_var 2) ?_)) (by decide) (fun x hx s H C cl fp => tg_name 3 scBothClasses.nd) (fun x hx s H C cl fp => evts_one (evt_cast (evt_notN (ev_var 3) ev_non) ?_)) (fun x hx _ s H C cl fp => ev_var 3) (fun x hx => ?_) (by rw [len_flat]; exact hz)) ?_))
  · cases agr x y <;> rfl
  · show pL _ = pL _
    congr 1
    rw [List.map_flatMap]
    simp only [List.map_map]
    rfl
  · cases x <;> rfl
  · cases x <;> rfl
  · rw [filter_opt]
    rfl
end
end Cu
set_option Elab.async false
set_option linter.all false
set_option maxRecDepth 100000
set_option maxHeartbeats 2000000
namespace Cu
open PySem PySem.Spec PyProof.Rows L2

/-! ### calls with keywords, with defaults -/
abbrev EvK (X : Cx) (kws : List Keyword) (ρ : Rho) (Ps : List Pd) : Prop := PK X kws (tEvA ρ Ps)
structure DfnN (P : Program) (w : World) (K : PySem.W.Frag) (mg : Str → Option Value) (base : Heap) (x : Str) (k n : Nat) (ks : List Str) (Ps Pk : List Pd) (Pr : Pd) : Prop where
  ex : ∃ (f : Addr) (fd : FuncData) (ps : List Str), mg x = some (.ref f) ∧ PySem.W.keepIn K (.ref f) = true ∧ KBn K fd ps n ks (fun us ws => us ++ ws) (fun vs zs => vs ++ zs) ∧ Ps.length = n ∧ Pk.length = ks.length ∧ FnOk P w K mg base CX0 k f fd ps (spR (Ps ++ Pk) Pr)
theorem PsOk.append {H : Hp} : ∀ {vs zs : List V} {Ps Pk : List Pd}, PsOk H vs Ps → PsOk H zs Pk → PsOk H (vs ++ zs) (Ps ++ Pk)
  | _, _, _, _, .nil, q => q
  | _, _, _, _, .cons h r, q => .cons h (r.append q)
section
variable {X : Cx} {e : Expr} {es : List Expr} {kws : List Keyword} {ρ : Rho} {Ps Pk : List Pd} {P1 Pr : Pd} {x nm : Str} {p pos kpos : Pos} {k n : Nat} {ks : List Str}
theorem evk_nil : EvK X [] ρ [] := ⟨fun pos pins s σ H Q I q => pk_nil.run pos pins s σ H Q I (q.2 [] H (Same.refl H) .nil)⟩
theorem evk_cons (h : Ev X e ρ P1) (h2 : EvK X kws ρ Ps) : EvK X (⟨nm, e, kpos⟩ :: kws) ρ (P1 :: Ps) := ⟨fun pos pins s σ H Q I q =>
  (pk_cons h h2).run pos pins s σ H Q I ⟨q.1, fun v H1 e1 q1 => ⟨q.1.mono e1, fun vs H2 e2 q2 => q.2 _ H2 (e1.trans e2) (.cons (P1.up e2 q1) q2)⟩⟩⟩
theorem ev_callN (F : DfnN X.prog X.w X.K X.mg X.base x k n ks Ps Pk Pr) (hr : Room k X.A) (ha : EvA X (e :: es) ρ Ps) (hk : EvK X kws ρ Pk) (hg : Gl X x := by rfl) (hall : (backToKw pos (keywordEach kws X.env)).all (·.1.isSome) = true := by rfl)
    (hks : (backToKw pos (keywordEach kws X.env)).filterMap (·.1) = ks := by rfl) (hdb : (x == ("__debug__" : Str)) = false := by decide) (he : starEach (e :: es) X.env = (false, eval e X.env) :: starEach es X.env := by rfl)
    (hpl : ((backTo pos (starEach (e :: es) X.env)).any (·.1) || (backToKw pos (keywordEach kws X.env)).any (·.1.isNone)) = false := by rfl) : Ev X (.Call (.Name x p) (e :: es) kws pos) ρ Pr := by
  obtain ⟨f, fd, ps, hm, hkp, hb, l1, l2, F⟩ := F.ex
  refine pe_to (pe_callN (E := E0) F hr hg hm hkp hb pass0 ha hk hall hks hdb he hpl) fun σ H Q ⟨st, k⟩ => ⟨st, fun vs H1 e1 q1 => ⟨st.mono e1, fun zs H2 e2 q2 => ⟨q1.length.trans l1, q2.length.trans l2, ?_⟩⟩⟩
  exact ⟨(q1.mono e2).append q2, fun v H' e3 p => k v H' (e1.trans (e2.trans e3)) p⟩
end
theorem kbn_of {K : PySem.W.Frag} {x qual : Str} {params : Arguments} {body : List Stmt} {scope : Scope} {kws : List (Str × V)} {f : Addr} {fd : FuncData} {ps ks : List Str} {n : Nat} (F : FunD K x qual params body scope [] kws f fd)
    (h : ∀ (kV doc pm : Value) (an : Option Addr) (cdv ct : Value) (us ws : List Value), us.length = n → ws.length = ks.length → bindArgs (PySem.W.fnOf x qual params body scope .none kV doc pm an cdv ct) ⟨us, ks.zip ws⟩ = pure (ps.zip (us ++ ws))) :
    KBn K fd ps n ks (fun us ws => us ++ ws) (fun vs zs => vs ++ zs) := by
  obtain ⟨oc, od, dV, kV, doc, pm, an, cdv, ct, osl, rfl, lk, hcd, hD, hK⟩ := F.ex
  rcases hD with ⟨_, rfl⟩ | ⟨z, _⟩
  · exact ⟨fun s us ws _ l1 l2 => .of_eq (h kV doc pm an cdv ct us ws l1 l2), fun r1 r2 => r1.append r2⟩
  · exact absurd rfl z
/-- a def whose last parameters have defaults dvs -/
structure DfnD (P : Program) (w : World) (K : PySem.W.Frag) (mg : Str → Option Value) (base : Heap) (x : Str) (k : Nat) (Ps Pk : List Pd) (Pr : Pd) : Prop where
  ex : ∃ (f : Addr) (fd : FuncData) (ps : List Str) (dvs : List V) (ds : List Value), mg x = some (.ref f) ∧ PySem.W.keepIn K (.ref f) = true ∧ Binds K fd ps ds ∧ Vals dvs ds ∧ (∀ H, PsOk H dvs Pk) ∧ FnOk P w K mg base CX0 k f fd ps (spR (Ps ++ Pk) Pr)
section
variable {X : Cx} {e : Expr} {es : List Expr} {ρ : Rho} {Ps Pk : List Pd} {Pr : Pd} {x : Str} {p pos : Pos} {k : Nat}
theorem ev_callD (F : DfnD X.prog X.w X.K X.mg X.base x k Ps Pk Pr) (hr : Room k X.A) (ha : EvA X (e :: es) ρ Ps) (hg : Gl X x := by rfl) (hdb : (x == ("__debug__" : Str)) = false := by decide)
    (he : starEach (e :: es) X.env = (false, eval e X.env) :: starEach es X.env := by rfl) (hpl : (backTo pos (starEach es X.env)).any (·.1) = false := by rfl) : Ev X (.Call (.Name x p) (e :: es) [] pos) ρ Pr := by
  obtain ⟨f, fd, ps, dvs, ds, hm, hk, hb, hd, hq, F⟩ := F.ex
  exact pe_to (pe_call (E := E0) F hr hg hm hk hb hd pass0 ha hdb he hpl) fun σ H Q ⟨st, k⟩ => ⟨st, fun vs H1 e1 q => ⟨q.append (hq H1), fun v H' e2 p => k v H' (e1.trans e2) p⟩⟩
end
/-- the parts of two balls, walked together -/
def rowD (n p s b : Int) : PyData := tInt4 n p s b
section
variable {P : Program} {w : World} {K : PySem.W.Frag} {mg : Str → Option Value} {base : Heap} {C : Addr} {W Hh : Int}
theorem fok_part {f : Addr} {fd : FuncData} (T : Txt K mg C) (F : FnP K "part_classes" sPartClasses f fd) (n p s b g mv bg : Int) (half : Bool) (hn : 0 < n) :
    FnOk P w K mg base CX0 4 f fd ["rows", "half"] (spR [pL [tInt4 n p s b, tInt4 n g mv bg], pB half] (pL ((partCl n p s b g mv bg half).map pr2))) := by
  refine F.ok scPartClasses (fun vs H Q E q => q.1.length) fun cdv A outer s' H vs Q E hr q => ⟨_, (show Svs (CxC P w K mg base nPartClasses "part_classes" (defScope sPartClasses) f cdv A outer s' H E) (defBody sPartClasses)
      (rho0 nPartClasses [pL [tInt4 n p s b, tInt4 n g mv bg], pB half]) (.rt (pL ((partCl n p s b g mv bg half).map pr2))) from ?_).nox, ?_⟩
  · refine svs_cons (sv_asg (ev_var 0) (tg_lst (tgs_cons (tg_tup (tgs_cons (tg_name 2 scPartClasses.nd) (tgs_cons (tg_name 3 scPartClasses.nd) (tgs_cons (tg_name 4 scPartClasses.nd) (tgs_cons (tg_name 5 scPartClasses.nd) tgs_nil)))) rfl)
      (tgs_cons (tg_tup (tgs_cons (tg_name 6 scPartClasses.nd) (tgs_cons (tg_name 7 scPartClasses.nd) (tgs_cons (tg_name 8 scPartClasses.nd) (tgs_cons (tg_name 9 scPartClasses.nd) tgs_nil)))) rfl) tgs_nil)) rfl)) ?_
    refine svs_if (evt_w (evw_and (evt_eq (ev_var 4) ev_int) fun _ => evw_and1 (evt_eq (ev_var 8) ev_int)))
      (fun h => svs_one (sv_ret (ev_if (evt_eq (ev_var 3) (ev_var 7)) (fun h2 => ev_cast (ev_lst (evd_cons (ev_tup (evd_cons ev_int (evd_cons ev_int evd_nil))) evd_nil)) ?_) (fun h2 => ev_cast (ev_lst evd_nil) ?_)))) fun h => ?_
    · rw [← Bool.decide_and] at h
      unfold partCl
      rw [if_pos (dTrue h), if_pos (dTrue h2)]
      rfl
    · rw [← Bool.decide_and] at h
      unfold partCl
      rw [if_pos (dTrue h), if_neg (dFalse h2)]
      rfl
    rw [← Bool.decide_and] at h
    refine svs_if (evt_w (evw_and (evt_ne (ev_var 4) ev_int) fun _ => evw_and1 (evt_ne (ev_var 8) ev_int)))
      (fun h2 => svs_cons (sv_set 10 scPartClasses.nd (ev_call (df_offset T n p s b hn) (hr.mono (by decide)) (eva_cons (ev_var 2) (eva_cons (ev_var 3) (eva_cons (ev_var 4) (eva_cons (ev_var 5) eva_nil))))))
        (svs_cons (sv_set 11 scPartClasses.nd (ev_call (df_offset T n g mv bg hn) (hr.mono (by decide)) (eva_cons (ev_var 2) (eva_cons (ev_var 7) (eva_cons (ev_var 8) (eva_cons (ev_var 9) eva_nil))))))
        (svs_one (sv_ret (ev_if (evt_val (ev_var 1)) (fun h3 => ev_cast (ev_call (df_halfMoving T n _ _ hn) (hr.mono (by decide)) (eva_cons (ev_var 2) (eva_cons (ev_var 10) (eva_cons (ev_var 11) eva_nil)))) ?_)
          (fun h3 => ev_cast (ev_call (df_metMoving T n _ _ hn) (hr.mono (by decide)) (eva_cons (ev_var 2) (eva_cons (ev_var 10) (eva_cons (ev_var 11) eva_nil)))) ?_)))))) fun h2 => ?_
    · rw [← decide_not, ← decide_not, ← Bool.decide_and] at h2
      unfold partCl
      rw [if_neg (dFalse h), if_pos (dTrue h2), if_pos h3]
    · rw [← decide_not, ← decide_not, ← Bool.decide_and] at h2
      unfold partCl
      rw [if_neg (dFalse h), if_pos (dTrue h2), if_neg (by rw [h3]; decide)]
    rw [← decide_not, ← decide_not, ← Bool.decide_and] at h2
    refine svs_if (evt_val (ev_var 1)) (fun h3 => svs_one (sv_ret' (ev_lst evd_nil) ?_)) fun h3 => svs_if (evt_ne (ev_var 4) ev_int)
      (fun h4 => svs_one (sv_ret' (ev_call (df_metStanding T n _ _ hn) (hr.mono (by decide)) (eva_cons (ev_var 2) (eva_cons (ev_call (df_offset T n p s b hn) (hr.mono (by decide)) (eva_cons (ev_var 2) (eva_cons (ev_var 3) (eva_cons (ev_var 4) (eva_cons (ev_var 5) eva_nil))))) (eva_cons (ev_var 7) eva_nil)))) ?_))
      (fun h4 => svs_one (sv_ret' (ev_call (df_metStanding T n _ _ hn) (hr.mono (by decide)) (eva_cons (ev_var 2) (eva_cons (ev_call (df_offset T n g mv bg hn) (hr.mono (by decide)) (eva_cons (ev_var 2) (eva_cons (ev_var 7) (eva_cons (ev_var 8) (eva_cons (ev_var 9) eva_nil))))) (eva_cons (ev_var 3) eva_nil)))) ?_))
    · unfold partCl
      rw [if_neg (dFalse h), if_neg (dFalse h2), if_pos h3]
      rfl
    · unfold partCl
      rw [if_neg (dFalse h), if_neg (dFalse h2), if_neg (by rw [h3]; decide), if_pos (ndTrue h4)]
    · unfold partCl
      rw [if_neg (dFalse h), if_neg (dFalse h2), if_neg (by rw [h3]; decide), if_neg (fun z => z (ndFalse h4))]
  · refine ⟨?_, fun v H' e p => q.2 v H' e p⟩
    have e := q.1.length
    unfold L2.start rho0
    rw [e]
    exact stok_start _ q.1
theorem df_partCl (T : Txt K mg C) (n p s b g mv bg : Int) (half : Bool) (hn : 0 < n) :
    DfnN P w K mg base "part_classes" 4 1 ["half"] [pL [tInt4 n p s b, tInt4 n g mv bg]] [pB half] (pL ((partCl n p s b g mv bg half).map pr2)) := by
  obtain ⟨f, fd, hm, F⟩ := T.part_classes
  exact ⟨f, fd, ["rows", "half"], hm, F.kp, kbn_of F fun _ _ _ _ _ _ us ws l1 l2 => (match us, ws, l1, l2 with | [_], [_], _, _ => rfl), rfl, rfl, fok_part T F n p s b g mv bg half hn⟩
theorem fok_pair {f : Addr} {fd : FuncData} (T : Txt K mg C) (F : FunD K "pair_classes" "pair_classes" (defArgs sPairClasses) (defBody sPairClasses) (defScope sPairClasses) [] [("half", .bl false)] f fd) (a b : Ball) (half : Bool)
    (hw : 0 < W) (hw2 : W ≤ 10 ^ 30) (hh : 0 < Hh) (hh2 : Hh ≤ 10 ^ 30) : FnOk P w K mg base CX0 5 f fd ["table", "one", "other", "half"] (spR [tab C W Hh, dat a.d, dat b.d, pB half] (pL ((pairCl W Hh a b half).map pr2))) := by
  refine F.ok scPairClasses (fun vs H Q E q => q.1.length) fun cdv A outer s' H vs Q E hr q => ⟨_, (show Svs (CxC P w K mg base nPairClasses "pair_classes" (defScope sPairClasses) f cdv A outer s' H E) (defBody sPairClasses)
      (rho0 nPairClasses [tab C W Hh, dat a.d, dat b.d, pB half]) (.rt (pL ((pairCl W Hh a b half).map pr2))) from ?_).nox, ?_⟩
  · let F1 := both [(0, 1)] (partCl W a.x a.dx a.m b.x b.dx b.m half)
    let fs : Nat → List (Int × Int) := fun i => match i with
      | 0 => [(0, 1)]
      | 1 => F1
      | _ => pairCl W Hh a b half
    have c1 : ∀ c ∈ F1, Cl 129 c := fun c hc => (both_cl (a := 1) (fun c hc => by rw [List.mem_singleton.mp hc]; exact cl01 1 (by decide)) (partCl_cl hw hw2) c hc).mono (by decide)
    have l1 : F1.length ≤ 2 := by
      have := both_len [(0, 1)] (partCl W a.x a.dx a.m b.x b.dx b.m half)
      have := partCl_len W a.x a.dx a.m b.x b.dx b.m half
      rw [List.length_singleton, Nat.one_mul] at *
      exact Nat.le_trans ‹_› ‹_›
    refine svs_cons (sv_set 4 scPairClasses.nd (ev_lst (evd_cons (ev_tup (evd_cons ev_int (evd_cons ev_int evd_nil))) evd_nil))) (svs_cons (sv_for PassesOwn.never
      (evi_zipT T.zZip (ev_call (df_partsOf T a) (hr.mono (by decide)) (eva_cons (ev_var 0) (eva_cons (ev_var 1) eva_nil))) (ev_call (df_partsOf T b) (hr.mono (by decide)) (eva_cons (ev_var 0) (eva_cons (ev_var 2) eva_nil))) (by rfl))
      (fun i => [some (tab C W Hh), some (dat a.d), some (dat b.d), some (pB half), some (pL ((fs i).map pr2)), none, none, none])
      (fun i => match i with
        | 0 => [some (tab C W Hh), some (dat a.d), some (dat b.d), some (pB half), some (pL ((fs 0).map pr2)), some (dat (tInt3 W a.x a.dx)), some (dat (tInt3 W b.x b.dx)), none]
        | _ => [some (tab C W Hh), some (dat a.d), some (dat b.d), some (pB half), some (pL ((fs 1).map pr2)), some (dat (tInt3 Hh a.y a.dy)), some (dat (tInt3 Hh b.y b.dy)), none])
      (fun _ => [5, 6]) ⟨rfl, rfl, rfl, rfl, rfl, trivial⟩ (fun i d hd => ?_) (fun i d hd => ?_)) (svs_one (sv_ret (ev_var 4))))
    · match i, hd with
      | 0, hd =>
        cases hd
        exact tg_tup (tgs_cons (tg_name 5 scPairClasses.nd) (tgs_cons (tg_name 6 scPairClasses.nd) tgs_nil)) rfl
      | 1, hd =>
        cases hd
        exact tg_tup (tgs_cons (tg_name 5 scPairClasses.nd) (tgs_cons (tg_name 6 scPairClasses.nd) tgs_nil)) rfl
      | i + 2, hd => cases hd
    · match i, hd with
      | 0, hd =>
        exact svs_weak_end (svs_cons (sv_set 7 scPairClasses.nd (ev_lst (evd_cons (ev_catT (ev_var 5) (ev_tup (evd_cons (ev_ixT (ev_var 1) ev_int) evd_nil)) (by simp)) (evd_cons (ev_catT (ev_var 6) (ev_tup (evd_cons (ev_ixT (ev_var 2) ev_int) evd_nil)) (by simp)) evd_nil))))
          (svs_one (sv_set 4 scPairClasses.nd (ev_call (df_both T [(0, 1)] (partCl W a.x a.dx a.m b.x b.dx b.m half) 128 (by decide) (by decide) (fun c hc => by rw [List.mem_singleton.mp hc]; exact cl01 128 (by decide)) (partCl_cl hw hw2)
            (by rw [List.length_singleton, Nat.one_mul]; exact Nat.le_trans (partCl_len ..) (by decide))) (hr.mono (by decide)) (eva_cons (ev_var 4) (eva_cons (ev_callN (df_partCl T W a.x a.dx a.m b.x b.dx b.m half hw) (hr.mono (by decide)) (eva_cons (ev_var 7) eva_nil) (evk_cons (ev_var 3) evk_nil)) eva_nil)))))) ⟨rfl, rfl, rfl, rfl, rfl, trivial⟩
      | 1, hd =>
        exact svs_weak_end (svs_cons (sv_set 7 scPairClasses.nd (ev_lst (evd_cons (ev_catT (ev_var 5) (ev_tup (evd_cons (ev_ixT (ev_var 1) ev_int) evd_nil)) (by simp)) (evd_cons (ev_catT (ev_var 6) (ev_tup (evd_cons (ev_ixT (ev_var 2) ev_int) evd_nil)) (by simp)) evd_nil))))
          (svs_one (sv_set 4 scPairClasses.nd (ev_call (df_both T F1 (partCl Hh a.y a.dy a.m b.y b.dy b.m half) 129 (by decide) (by decide) c1 (fun c hc => (partCl_cl hh hh2 c hc).mono (by decide))
            (Nat.le_trans (Nat.mul_le_mul l1 (partCl_len ..)) (by decide))) (hr.mono (by decide)) (eva_cons (ev_var 4) (eva_cons (ev_callN (df_partCl T Hh a.y a.dy a.m b.y b.dy b.m half hh) (hr.mono (by decide)) (eva_cons (ev_var 7) eva_nil) (evk_cons (ev_var 3) evk_nil)) eva_nil)))))) ⟨rfl, rfl, rfl, rfl, rfl, trivial⟩
      | i + 2, hd => cases hd
  · refine ⟨?_, fun v H' e p => q.2 v H' e p⟩
    have e := q.1.length
    unfold L2.start rho0
    rw [e]
    exact stok_start _ q.1
/-- pair_classes(.., half=..) -/
theorem df_pairK (T : Txt K mg C) (a b : Ball) (half : Bool) (hw : 0 < W) (hw2 : W ≤ 10 ^ 30) (hh : 0 < Hh) (hh2 : Hh ≤ 10 ^ 30) :
    DfnN P w K mg base "pair_classes" 5 3 ["half"] [tab C W Hh, dat a.d, dat b.d] [pB half] (pL ((pairCl W Hh a b half).map pr2)) := by
  obtain ⟨f, fd, hm, F⟩ := T.pair_classes
  exact ⟨f, fd, ["table", "one", "other", "half"], hm, F.kp, kbn_of F fun _ _ _ _ _ _ us ws l1 l2 => (match us, ws, l1, l2 with | [_, _, _], [_], _, _ => rfl), rfl, rfl, fok_pair T F a b half hw hw2 hh hh2⟩
/-- pair_classes(..) by its default -/
theorem df_pairD (T : Txt K mg C) (a b : Ball) (hw : 0 < W) (hw2 : W ≤ 10 ^ 30) (hh : 0 < Hh) (hh2 : Hh ≤ 10 ^ 30) :
    DfnD P w K mg base "pair_classes" 5 [tab C W Hh, dat a.d, dat b.d] [pB false] (pL ((pairCl W Hh a b false).map pr2)) := by
  obtain ⟨f, fd, hm, F⟩ := T.pair_classes
  obtain ⟨ds, hd, hb⟩ := F.binds0 (ps := ["table", "one", "other", "half"]) 3 (by simp) rfl fun D _ _ _ _ _ us ks l1 l2 => (match us, ks, l1, l2 with | [_, _, _], [_], _, _ => ⟨_, _, _, _, _, _, rfl, rfl, rfl⟩)
  exact ⟨f, fd, _, _, ds, hm, F.kp, hb, hd, fun H => .cons (.bl false) .nil, fok_pair T F a b false hw hw2 hh hh2⟩
end
end Cu
set_option Elab.async false
set_option linter.all false
set_option maxRecDepth 100000
set_option maxHeartbeats 2000000
namespace Cu
open PySem PySem.Spec PyProof.Rows L2

def mx : Int → List Int → Int
  | a, [] => a
  | a, b :: r => mx (max a b) r
theorem mx_spec : ∀ (a : Int) (l : List Int), mx a l ∈ a :: l ∧ ∀ y ∈ a :: l, y ≤ mx a l
  | a, [] => ⟨List.mem_singleton.mpr rfl, fun y hy => by rw [List.mem_singleton.mp hy]; exact Int.le_refl _⟩
  | a, b :: r => by
    obtain ⟨h1, h2⟩ := mx_spec (max a b) r
    refine ⟨?_, fun y hy => ?_⟩
    · show mx (max a b) r ∈ _
      rcases List.mem_cons.mp h1 with e | e
      · rw [e]
        by_cases c : a ≤ b
        · rw [Int.max_eq_right c]
          exact List.mem_cons_of_mem _ List.mem_cons_self
        · rw [Int.max_eq_left (by omega)]
          exact List.mem_cons_self
      · exact List.mem_cons_of_mem _ (List.mem_cons_of_mem _ e)
    · show y ≤ mx (max a b) r
      have h3 := h2 (max a b) List.mem_cons_self
      rcases List.mem_cons.mp hy with rfl | hy
      · omega
      · rcases List.mem_cons.mp hy with rfl | hy
        · omega
        · exact h2 y (List.mem_cons_of_mem _ hy)
def b0 : Ball := ⟨sgn 0, 0, 0, 0, 0, 0⟩
noncomputable def tog (w h : Int) (a : Ball) (r : List Ball) : List (Int × Int) := fromMin (togCl w h a r.reverse) (mx a.m (r.map Ball.m))
section
variable {P : Program} {w : World} {K : PySem.W.Frag} {mg : Str → Option Value} {base : Heap} {C : Addr} {W Hh : Int}
theorem df_fromMin (T : Txt K mg C) (cs : List (Int × Int)) (t : Int) (hp : ∀ c ∈ cs, 0 < c.2) (hz : cs.length ≤ 1000) : Dfn P w K mg base "from_minute" 1 [pL (cs.map pr2), pI t] (pL ((fromMin cs t).map pr2)) := by
  refine dfn_of T.from_minute scFromMinute rfl (fun _ _ _ _ _ _ us hl => match us, hl with | [_, _], _ => rfl) fun f cdv A outer s' H E hr => ?_
  refine svs_one (sv_ret (ev_sortP (ns := cs.map fun c => (t + (c.1 - t) % c.2, c.2)) T.zSorted (ev_cast (ev_lc (xs := cs) (enc := pr2) (pr := fun _ => true) (gd := fun c => pr2 (t + (c.1 - t) % c.2, c.2)) [("remainder", 2), ("modulus", 3)] scFromMinute.nd
    (blkOk_by (N := nFromMinute) (sc := defScope sFromMinute) (by decide +kernel)) (evi_list (ev_var 0)) (by decide) (fun x hx s H C cl fp => tg_tup (tgs_cons (tg_name 2 scFromMinute.nd) (tgs_cons (tg_name 3 scFromMinute.nd) tgs_nil)) rfl)
    (fun x hx s H C cl fp => evts_nil) (fun x hx _ s H C cl fp => ev_tup (evd_cons (ev_add (ev_var 1) (ev_mod (ev_sub (ev_var 2) (ev_var 1)) (ev_var 3) (hp x hx))) (evd_cons (ev_var 3) evd_nil))) (fun x hx => rfl) hz) ?_) (sortP_perm _) (sortP_sorted _)))
  rw [filter_yes, List.map_map]
  rfl
theorem df_halfs (T : Txt K mg C) (a b : Ball) (oa : OkBall W Hh a) (ob : OkBall W Hh b) (hw : 0 < W) (hw2 : W ≤ 10 ^ 30) (hh : 0 < Hh) (hh2 : Hh ≤ 10 ^ 30) :
    Dfn P w K mg base "half_meetings" 6 [tab C W Hh, dat a.d, dat b.d] (pL ((halfs W Hh a b).map pr2)) := by
  refine dfn_of T.half_meetings scHalfMeetings rfl (fun _ _ _ _ _ _ us hl => match us, hl with | [_, _, _], _ => rfl) fun f cdv A outer s' H E hr => ?_
  exact svs_cons (sv_drop (ev_call (df_checkBall T a oa) (hr.mono (by decide)) (eva_cons (ev_var 0) (eva_cons (ev_var 1) eva_nil)))) (svs_cons (sv_drop (ev_call (df_checkBall T b ob) (hr.mono (by decide)) (eva_cons (ev_var 0) (eva_cons (ev_var 2) eva_nil))))
    (svs_one (sv_ret (ev_call (df_fromMin T (pairCl W Hh a b true) (max a.m b.m) (fun c hc => (pairCl_cl hw hw2 hh hh2 c hc).pos) (Nat.le_trans (pairCl_len ..) (by decide))) (hr.mono (by decide))
      (eva_cons (ev_callN (df_pairK T a b true hw hw2 hh hh2) hr (eva_cons (ev_var 0) (eva_cons (ev_var 1) (eva_cons (ev_var 2) eva_nil))) (evk_cons ev_bl evk_nil)) (eva_cons (ev_max2 T.zMax (ev_ixT (ev_var 1) ev_int) (ev_ixT (ev_var 2) ev_int)) eva_nil))))))
theorem take_rev {α : Type} {l : List α} {i : Nat} {x : α} (h : l[i]? = some x) : (l.take (i + 1)).reverse = x :: (l.take i).reverse := by
  rw [List.take_add_one, h]
  show (l.take i ++ [x]).reverse = _
  rw [List.reverse_append]
  rfl
theorem df_tog (T : Txt K mg C) (a : Ball) (r : List Ball) (hr2 : r.length ≤ 2) (hw : 0 < W) (hw2 : W ≤ 10 ^ 30) (hh : 0 < Hh) (hh2 : Hh ≤ 10 ^ 30) :
    Dfn P w K mg base "together" 6 [tab C W Hh, pL ((a :: r).map Ball.d)] (pL ((tog W Hh a r).map pr2)) := by
  refine dfn_of T.together scTogether rfl (fun _ _ _ _ _ _ us hl => match us, hl with | [_, _], _ => rfl) fun f cdv A outer s' H E hr => ?_
  have cl : ∀ l : List Ball, l.length ≤ 2 → ∀ c ∈ togCl W Hh a l, Cl 901 c := fun l hl c hc => (togCl_cl hw hw2 hh hh2 l c hc).mono (by omega)
  have ln : ∀ l : List Ball, l.length ≤ 2 → (togCl W Hh a l).length ≤ 16 := fun l hl => Nat.le_trans (togCl_len W Hh a l) (Nat.le_trans (Nat.pow_le_pow_right (by decide) hl) (by decide))
  have hrl : (r.map Ball.d).length = r.length := List.length_map _
  refine svs_cons (sv_set 2 scTogether.nd (ev_lst (evd_cons (ev_tup (evd_cons ev_int (evd_cons ev_int evd_nil))) evd_nil))) (svs_cons (sv_for (ds := r.map Ball.d) PassesOwn.never (evi_list (ev_cast (ev_slFrom (ds := (a :: r).map Ball.d) (n := 1) (ev_var 1) ev_int) rfl))
    (fun i => [some (tab C W Hh), some (pL ((a :: r).map Ball.d)), some (pL ((togCl W Hh a (r.take i).reverse).map pr2)), none])
    (fun i => [some (tab C W Hh), some (pL ((a :: r).map Ball.d)), some (pL ((togCl W Hh a (r.take i).reverse).map pr2)), some (dat (r.getD i b0).d)]) (fun _ => [3]) ⟨rfl, rfl, rfl, trivial⟩ (fun i d hd => ?_) (fun i d hd => ?_))
    (svs_one (sv_ret (ev_call (df_fromMin T (togCl W Hh a r.reverse) (mx a.m (r.map Ball.m)) (fun c hc => (cl _ (by simpa using hr2) c hc).pos) (Nat.le_trans (ln _ (by simpa using hr2)) (by decide))) (hr.mono (by decide))
      (eva_cons (ev_cast (ev_var 2) ?_) (eva_cons (ev_maxL (ns := (a :: r).map Ball.m) T.zMax (ev_cast (ev_lc (xs := a :: r) (enc := Ball.d) (pr := fun _ => true) (gd := fun b => .int b.m) [("ball", 3)] scTogether.nd (blkOk_by (N := nTogether) (sc := defScope sTogether) (by decide +kernel))
        (evi_list (ev_var 1)) (by decide) (fun x hx s H C cl fp => tg_name 3 scTogether.nd) (fun x hx s H C cl fp => evts_nil) (fun x hx _ s H C cl fp => ev_ixT (d := .int x.m) (ev_var 3) ev_int) (fun x hx => rfl) (by rw [List.length_cons]; omega)) ?_)
        (mx_spec a.m (r.map Ball.m)).1 (mx_spec a.m (r.map Ball.m)).2) eva_nil))))))
  · rw [List.getElem?_map] at hd
    cases hx : r[i]? with
    | none =>
      rw [hx] at hd
      cases hd
    | some b =>
      rw [hx] at hd
      cases hd
      rw [List.getD_eq_getElem?_getD, hx]
      exact tg_name 3 scTogether.nd
  · rw [List.getElem?_map] at hd
    cases hx : r[i]? with
    | none =>
      rw [hx] at hd
      cases hd
    | some b =>
      have hl : (r.take i).reverse.length ≤ 2 := by rw [List.length_reverse, List.length_take]; omega
      rw [List.getD_eq_getElem?_getD, hx, take_rev hx]
      exact svs_weak_end (svs_one (sv_set 2 scTogether.nd (ev_call (df_both T (togCl W Hh a (r.take i).reverse) (pairCl W Hh a b false) 901 (by decide) (by decide) (cl _ hl) (fun c hc => (pairCl_cl hw hw2 hh hh2 c hc).mono (by decide))
        (Nat.le_trans (Nat.mul_le_mul (ln _ hl) (pairCl_len ..)) (by decide))) (hr.mono (by decide)) (eva_cons (ev_var 2) (eva_cons (ev_callD (df_pairD T a b hw hw2 hh hh2) hr (eva_cons (ev_var 0) (eva_cons (ev_ixL (d := a.d) (ev_var 1) ev_int (L2.atI_nat (j := 0) rfl)) (eva_cons (ev_var 3) eva_nil)))) eva_nil))))) ⟨rfl, rfl, rfl, trivial⟩
  · rw [hrl, List.take_length]
  · rw [filter_yes, ints_map]
theorem df_checkBalls (T : Txt K mg C) (bs : List Ball) (ok : Balls W Hh bs) : Dfn P w K mg base "check_balls" 4 [tab C W Hh, pL (bs.map Ball.d)] pN := by
  obtain ⟨ob, nd, l1, l3⟩ := ok
  have en : ∀ {i : Nat} {d : PyData}, (enumD (bs.map Ball.d))[i]? = some d → ∃ b, bs[i]? = some b ∧ d = .tuple [.int (i : Nat), b.d] := fun {i d} hd => by
    unfold enumD at hd
    rw [List.getElem?_map, List.getElem?_zipIdx, List.getElem?_map] at hd
    cases hx : bs[i]? with
    | none =>
      rw [hx] at hd
      cases hd
    | some b =>
      rw [hx] at hd
      refine ⟨b, rfl, (Option.some.inj hd).symm.trans ?_⟩
      show PyData.tuple [.int ((0 + i : Nat) : Int), b.d] = _
      rw [Nat.zero_add]
  refine dfn_ofN (ρ' := [some (tab C W Hh), some (pL (bs.map Ball.d)), none, none, none]) T.check_balls scCheckBalls rfl (fun _ _ _ _ _ _ us hl => match us, hl with | [_, _], _ => rfl) fun f cdv A outer s' H E hr => ?_
  refine svs_cons (sv_for PassesOwn.never (evi_enum T.zEnumerate (ev_var 1)) (fun i => [some (tab C W Hh), some (pL (bs.map Ball.d)), none, none, none])
    (fun i => [some (tab C W Hh), some (pL (bs.map Ball.d)), some (pI (i : Nat)), some (dat (bs.getD i b0).d), none]) (fun _ => [2, 3]) ⟨rfl, rfl, trivial⟩ (fun i d hd => ?_) (fun i d hd => ?_))
    (svs_one (sv_ifno (evt_cast (evt_gt (ev_lenL T.zLen (ev_var 1)) (ev_gint T.cMOSTBALLSballs)) (decide_eq_false ?_))))
  · obtain ⟨b, hx, rfl⟩ := en hd
    rw [List.getD_eq_getElem?_getD, hx]
    exact tg_tup (tgs_cons (tg_name 2 scCheckBalls.nd) (tgs_cons (tg_name 3 scCheckBalls.nd) tgs_nil)) rfl
  · obtain ⟨b, hx, rfl⟩ := en hd
    rw [List.getD_eq_getElem?_getD, hx]
    refine svs_weak_end (svs_cons (sv_drop (ev_call (df_checkBall T b (ob b (List.mem_of_getElem? hx))) hr (eva_cons (ev_var 0) (eva_cons (ev_var 3) eva_nil)))) (svs_one (sv_ifno (evt_cast (evt_inL (ys := (bs.take i).map Ball.nm) (ev_ixT (d := .str b.nm) (ev_var 3) ev_int)
      (ev_cast (ev_lc (xs := bs.take i) (enc := Ball.d) (pr := fun _ => true) (gd := fun b => .str b.nm) [("other", 4)] scCheckBalls.nd (blkOk_by (N := nCheckBalls) (sc := defScope sCheckBalls) (by decide +kernel))
        (evi_list (ev_cast (ev_slTo (n := i) (ev_var 1) (ev_var 2)) (congrArg pL (List.map_take ..).symm))) (by decide) (fun x hx s H C cl fp => tg_name 4 scCheckBalls.nd) (fun x hx s H C cl fp => evts_nil) (fun x hx _ s H C cl fp => ev_ixT (d := .str x.nm) (ev_var 4) ev_int) (fun x hx => rfl)
        (by rw [List.length_take]; omega)) ?_)) (decide_eq_false ?_))))) ⟨rfl, rfl, trivial⟩
    · rw [filter_yes, strs_map]
    · intro hm
      obtain ⟨j, hj⟩ := List.getElem?_of_mem hm
      rw [List.getElem?_map, List.getElem?_take] at hj
      by_cases c : j < i
      · rw [if_pos c] at hj
        have h1 : (bs.map Ball.nm)[j]? = some b.nm := by rw [List.getElem?_map]; exact hj
        have h2 : (bs.map Ball.nm)[i]? = some b.nm := by rw [List.getElem?_map, hx]; rfl
        have := nd_ix nd h1 h2
        omega
      · rw [if_neg c] at hj
        cases hj
  · rw [List.length_map]
    omega
theorem df_checkCrowd (T : Txt K mg C) (bs : List Ball) (ok : Balls W Hh bs) : Dfn P w K mg base "check_crowd" 5 [tab C W Hh, pL (bs.map Ball.d)] pN :=
  dfn_ofN T.check_crowd scCheckCrowd rfl (fun _ _ _ _ _ _ us hl => match us, hl with | [_, _], _ => rfl) fun f cdv A outer s' H E hr =>
    svs_cons (sv_drop (ev_call (df_checkBalls T bs ok) hr (eva_cons (ev_var 0) (eva_cons (ev_var 1) eva_nil)))) (svs_one (sv_ifno (evt_cast (evt_not (evt_lele ev_int (ev_lenL T.zLen (ev_var 1)) (ev_gint T.cMOSTBALLScrowds)))
      (by
        obtain ⟨_, _, l1, l3⟩ := ok
        rw [List.length_map, decide_eq_true (show (1 : Int) ≤ (bs.length : Nat) by omega), decide_eq_true (show ((bs.length : Nat) : Int) ≤ 6 by omega)]
        rfl))))
theorem df_allTog (T : Txt K mg C) (a : Ball) (r : List Ball) (ok : Balls W Hh (a :: r)) (hw : 0 < W) (hw2 : W ≤ 10 ^ 30) (hh : 0 < Hh) (hh2 : Hh ≤ 10 ^ 30) :
    Dfn P w K mg base "all_together" 7 [tab C W Hh, pL ((a :: r).map Ball.d)] (pL ((tog W Hh a r).map pr2)) := by
  refine dfn_of T.all_together scAllTogether rfl (fun _ _ _ _ _ _ us hl => match us, hl with | [_, _], _ => rfl) fun f cdv A outer s' H E hr => ?_
  have hl : r.length ≤ 2 := by
    have := ok.2.2.2
    rw [List.length_cons] at this
    omega
  exact svs_cons (sv_drop (ev_call (df_checkCrowd T (a :: r) ok) (hr.mono (by decide)) (eva_cons (ev_var 0) (eva_cons (ev_var 1) eva_nil)))) (svs_one (sv_ret (ev_call (df_tog T a r hl hw hw2 hh hh2) hr (eva_cons (ev_var 0) (eva_cons (ev_var 1) eva_nil)))))
end
end Cu
set_option Elab.async false
set_option linter.all false
set_option maxRecDepth 100000
set_option maxHeartbeats 2000000
/-! min of a list, with or without a default, whatever its items are (the order is asked only between items that meet). -/
namespace Cu
open PySem PySem.Spec PyProof.Rows L2
section
variable {prog : Program} {w : World} {A : Around} {R : Result → Shared → Prop} {I : Addr} {fp wr : List Addr} {n : Nat} {P : Nat → Value → Prop} {St : Nat → Heap → Prop}
/-- item j + 1 is asked against the best of those ahead -/
def Meets (prog : Program) (w : World) (A : Around) (n : Nat) (P : Nat → Value → Prop) (bt : Nat → Nat → Bool) : Prop :=
  ∀ j, j + 1 < n → ∀ (u v : Value) (s : Shared) (Q : Value → Shared → Prop) (E : Value → Shared → Prop), P (j + 1) u → P (argBest bt j) v → Q (.bool (bt (j + 1) (argBest bt j))) s → wpAny (model prog w) A (richCompare .Lt u v) Q E s
theorem loopName : (toString "min" ++ toString ".loop" : String) = "min.loop" := by decide
theorem minTurns (W : Walks prog w A.in1 I fp wr n P St) (bt : Nat → Nat → Bool) (cmp : Meets prog w A.in1 n P bt) (B : Addr) (hB : B ∉ fp) (kw : List (Str × Value)) :
    ∀ (k j : Nat) (s : Shared) (b : Value) (m : Nat), n - (j + 1) = k → j + 1 ≤ n → St (j + 1) s.heap → P (argBest bt j) b → s.heap.get? B = some { cls := .type "list", dict := none, data := .seq #[b, b] m, slots := #[] } →
      (∀ v h' tk, P (argBest bt (n - 1)) v → (∀ a o, a ∉ wr → a ≠ B → s.heap.get? a = some o → h'.get? a = some o) → R (.ok (.ret v)) { s with heap := h', toks := tk }) →
      codeAny (model prog w) A (.builtin "min.loop" ⟨[.ref I, .none, .ref B], kw⟩) R s := by
  have hw : B ∉ wr := fun h => hB (W.sub _ h)
  intro k
  induction k with
  | zero =>
    intro j s b m e1 e2 st pb hs fin
    have e3 : j + 1 = n := by omega
    refine codeAny_builtin F.entry_min_loop ?_
    rw [Around.under_plainId F.plain_min_loop _]
    show wpAny _ A.in1 (seqItems? (.ref B) >>= _) _ _ s
    refine wpAny_bind (wpAny_seqItems hs rfl ?_)
    show wpAny _ A.in1 (tryCatch (pyNext (.ref I)) _ >>= _) _ _ s
    refine wpAny_bind (wpAny_tryCatch (W.done s _ _ (e3 ▸ st) fun h1 t1 k1 => ?_))
    show wpAny _ A.in1 (updateSeq B (fun _ => #[]) >>= _) _ _ _
    refine wpAny_bind (wpAny_updateSeq (k1 B _ hw hs) rfl (wpAny_bind (wpAny_letGo (wpAny_pure ?_))))
    exact fin b _ t1 (by rw [← e3]; exact pb) fun a o na nb e => (Heap.get?_update_other _ _ (Ne.symm nb)).trans (k1 a o na e)
  | succ k ih =>
    intro j s b m e1 e2 st pb hs fin
    have lt : j + 1 < n := by omega
    refine codeAny_builtin F.entry_min_loop ?_
    rw [Around.under_plainId F.plain_min_loop _]
    show wpAny _ A.in1 (seqItems? (.ref B) >>= _) _ _ s
    refine wpAny_bind (wpAny_seqItems hs rfl ?_)
    show wpAny _ A.in1 (tryCatch (pyNext (.ref I)) _ >>= _) _ _ s
    refine wpAny_bind (wpAny_tryCatch (W.item (j + 1) s _ _ lt st fun v h1 t1 pv st1 k1 => ?_))
    have hs1 := k1 B _ hw hs
    show wpAny _ A.in1 (tryCatch (holding [v, v] (richCompare .Lt v b >>= _)) _ >>= _) _ _ _
    refine wpAny_bind (wpAny_tryCatch (wpAny_holding (wpAny_bind (cmp j lt v b _ _ _ pv pb ?_))))
    refine wpAny_bind (wpAny_holding (wpAny_truthy_bool (wpAny_bind (wpAny_letGo (wpAny_pure ?_)))))
    cases hb : bt (j + 1) (argBest bt j) with
    | true =>
      simp only [if_true]
      refine wpAny_bind (wpAny_updateSeq hs1 rfl (wpAny_bind (wpAny_letGo ?_)))
      rw [loopName]
      refine wpAny_pure ⟨plainId_quiet F.plain_min_loop _, ih (j + 1) _ v _ (by omega) lt (W.frame _ _ _ st1 fun a ha o e => ?_) (by simp only [argBest, hb, if_true]; exact pv) (Heap.get?_update_self _ hs1 rfl) fun u h2 t2 pu k2 => ?_⟩
      · exact (Heap.get?_update_other _ _ (fun z : B = a => hB (z ▸ ha))).trans e
      · exact fin u h2 t2 pu fun a o na nb e => k2 a o na nb ((Heap.get?_update_other _ _ (Ne.symm nb)).trans (k1 a o na e))
    | false =>
      simp only [Bool.false_eq_true, if_false]
      refine wpAny_bind (wpAny_letGo ?_)
      rw [loopName]
      exact wpAny_pure ⟨plainId_quiet F.plain_min_loop _, ih (j + 1) _ b m (by omega) lt st1 (by simp only [argBest, hb, Bool.false_eq_true, if_false]; exact pb) hs1 fun u h2 t2 pu k2 => fin u h2 t2 pu fun a o na nb e => k2 a o na nb (k1 a o na e)⟩
theorem minFirst (W : Walks prog w A.in1 I fp wr n P St) (bt : Nat → Nat → Bool) (cmp : Meets prog w A.in1 n P bt) (B : Addr) (hB : B ∉ fp) (kw : List (Str × Value)) (hn : 0 < n) {s : Shared} {m : Nat} (st : St 0 s.heap)
    (hs : s.heap.get? B = some { cls := .type "list", dict := none, data := .seq #[] m, slots := #[] })
    (fin : ∀ v h' tk, P (argBest bt (n - 1)) v → (∀ a o, a ∉ wr → a ≠ B → s.heap.get? a = some o → h'.get? a = some o) → R (.ok (.ret v)) { s with heap := h', toks := tk }) :
    codeAny (model prog w) A (.builtin "min.loop" ⟨[.ref I, .none, .ref B], kw⟩) R s := by
  have hw : B ∉ wr := fun h => hB (W.sub _ h)
  refine codeAny_builtin F.entry_min_loop ?_
  rw [Around.under_plainId F.plain_min_loop _]
  show wpAny _ A.in1 (seqItems? (.ref B) >>= _) _ _ s
  refine wpAny_bind (wpAny_seqItems hs rfl ?_)
  show wpAny _ A.in1 (tryCatch (pyNext (.ref I)) _ >>= _) _ _ s
  refine wpAny_bind (wpAny_tryCatch (W.item 0 s _ _ hn st fun v h1 t1 pv st1 k1 => ?_))
  have hs1 := k1 B _ hw hs
  show wpAny _ A.in1 (updateSeq B (fun _ => #[v, v]) >>= _) _ _ _
  refine wpAny_bind (wpAny_updateSeq hs1 rfl ?_)
  rw [loopName]
  refine wpAny_pure ⟨plainId_quiet F.plain_min_loop _, minTurns W bt cmp B hB kw _ 0 _ v _ rfl hn (W.frame _ _ _ st1 fun a ha o e => ?_) pv (Heap.get?_update_self _ hs1 rfl) fun u h2 t2 pu k2 => ?_⟩
  · exact (Heap.get?_update_other _ _ (fun z : B = a => hB (z ▸ ha))).trans e
  · exact fin u h2 t2 pu fun a o na nb e => k2 a o na nb ((Heap.get?_update_other _ _ (Ne.symm nb)).trans (k1 a o na e))
/-- nothing is walked: the default -/
theorem minNone (W : Walks prog w A.in1 I fp wr 0 P St) (B : Addr) (hB : B ∉ fp) (x : Str) (d : Value) {s : Shared} {m : Nat} (st : St 0 s.heap) (hs : s.heap.get? B = some { cls := .type "list", dict := none, data := .seq #[] m, slots := #[] })
    (fin : ∀ h' tk, (∀ a o, a ∉ wr → s.heap.get? a = some o → h'.get? a = some o) → R (.ok (.ret d)) { s with heap := h', toks := tk }) :
    codeAny (model prog w) A (.builtin "min.loop" ⟨[.ref I, .none, .ref B], [(x, d)]⟩) R s := by
  refine codeAny_builtin F.entry_min_loop ?_
  rw [Around.under_plainId F.plain_min_loop _]
  show wpAny _ A.in1 (seqItems? (.ref B) >>= _) _ _ s
  refine wpAny_bind (wpAny_seqItems hs rfl ?_)
  show wpAny _ A.in1 (tryCatch (pyNext (.ref I)) _ >>= _) _ _ s
  refine wpAny_bind (wpAny_tryCatch (W.done s _ _ st fun h1 t1 k1 => ?_))
  show wpAny _ A.in1 (rule _ >>= _) _ _ _
  exact wpAny_bind (wpAny_rule (wpAny_pure (fin h1 t1 k1)))
end
section
variable {prog : Program} {w : World} {A : Around} {E : Value → Shared → Prop} {s : Shared} {l : Addr} {items : Array Value} {Q : Value → Shared → Prop}
theorem args_minD (a d : Value) : argsOk "min" ⟨[a], [("default", d)]⟩ := by unfold argsOk; kernel_rfl
theorem bindD (d : Value) : Builtin.Builtins.bindParams "min" ["key", "default"] 0 ⟨[], [("default", d)]⟩ = pure [none, some d] := by kernel_rfl
/-- a list's iterator, whatever its items are -/
theorem iterOf {Q : Value → Shared → Prop} (hl : s.heap.IsList l items)
    (h : l ≠ s.heap.objs.size → (s.heap.push { cls := .type "list_iterator", data := .fields #[.ref l, .int 0 0] }).IsListIter s.heap.objs.size l 0 → (s.heap.push { cls := .type "list_iterator", data := .fields #[.ref l, .int 0 0] }).IsList l items →
      Q (.ref s.heap.objs.size) { s with heap := s.heap.push { cls := .type "list_iterator", data := .fields #[.ref l, .int 0 0] } }) : wpAny (model prog w) A (pyIter (.ref l)) Q E s := by
  have lt : l < s.heap.objs.size := by
    obtain ⟨_, e, _⟩ := hl
    exact Heap.lt_size e
  exact wpAny_pyIter_list hl (h (Nat.ne_of_lt lt) ⟨_, Heap.get?_push_size _ rfl, rfl, rfl⟩ (hl.push _))
theorem kept2 {h h' : Heap} {o1 o2 : Obj} (k : ∀ a o, a ∉ [h.objs.size] → a ≠ (h.push o1).objs.size → ((h.push o1).push o2).get? a = some o → h'.get? a = some o) : ∀ a o, h.get? a = some o → h'.get? a = some o := fun a o e => by
  have lt := Heap.lt_size e
  refine k a o (fun z => ?_) (fun z => ?_) (Heap.get?_push_of_some _ (Heap.get?_push_of_some _ e))
  · rw [List.mem_singleton.mp z] at lt
    exact Nat.lt_irrefl _ lt
  · rw [z, Heap.size_push] at lt
    exact Nat.lt_irrefl _ (Nat.lt_of_succ_lt lt)
/-- min(xs, default=d) -/
theorem minDefault (hh : A.handled = none) (hl : s.heap.IsList l items) (bt : Nat → Nat → Bool) (cmp : Meets prog w A.in1 items.size (fun i v => items[i]? = some v) bt) (d : Value)
    (h : ∀ v h' tk, (items.size = 0 ∧ v = d ∨ 0 < items.size ∧ items[argBest bt (items.size - 1)]? = some v) → (∀ a o, s.heap.get? a = some o → h'.get? a = some o) → Q v { s with heap := h', toks := tk }) :
    wpAny (model prog w) A (call (.builtin "min") [.ref l] [("default", d)]) Q E s := by
  refine PyProof.Rows.kmk_tree F.kind_min F.plain_min F.entry_min (args_minD _ _) ?_
  show wpAny _ A.in1 (Builtin.Builtins.bindParams "min" ["key", "default"] 0 ⟨[], [("default", d)]⟩ >>= _) _ _ s
  refine wpAny_bind (wpAny_of_eq (bindD d) ?_)
  refine wpAny_bind (wpAny_pure (wpAny_bind (iterOf hl fun hne hi hl2 => wpAny_bind (wpAny_newObj_type ?_))))
  have W := Walks.list (prog := prog) (w := w) (A := A.in1) hh s.heap.objs.size l hne items
  have hnf : (s.heap.push { cls := .type "list_iterator", data := .fields #[.ref l, .int 0 0] }).objs.size ∉ [s.heap.objs.size, l] := fun hm => by
    rw [Heap.size_push] at hm
    have lt := Heap.lt_size hl.choose_spec.1
    rcases List.mem_cons.mp hm with z | z
    · exact Nat.succ_ne_self _ z
    · rw [← List.mem_singleton.mp z] at lt
      exact Nat.lt_irrefl _ (Nat.lt_of_succ_lt lt)
  rw [loopName]
  have st0 := W.frame 0 _ ((s.heap.push { cls := .type "list_iterator", data := .fields #[.ref l, .int 0 0] }).push { cls := .type "list", data := .seq #[] }) ⟨hi, hl2⟩ fun b _ o e => Heap.get?_push_of_some _ e
  refine wpAny_pure ⟨plainId_quiet F.plain_min_loop _, ?_⟩
  by_cases h0 : items.size = 0
  · have W0 : Walks prog w A.in1 s.heap.objs.size [s.heap.objs.size, l] [s.heap.objs.size] 0 (fun i v => items[i]? = some v) (fun i h => h.IsListIter s.heap.objs.size l i ∧ h.IsList l items) := h0 ▸ W
    refine minNone W0 _ hnf "default" d st0 (Heap.get?_push_size _ rfl) fun h1 t1 k1 => ?_
    exact h d h1 t1 (.inl ⟨h0, rfl⟩) (kept2 fun a o na _ e => k1 a o na e)
  · refine minFirst W bt cmp _ hnf _ (by omega) st0 (Heap.get?_push_size _ rfl) fun v h1 t1 pv k1 => ?_
    exact h v h1 t1 (.inr ⟨by omega, pv⟩) (kept2 k1)
/-- min(xs) of one item: that one, and nothing is asked of it -/
theorem minOne (hh : A.handled = none) {v : Value} (hl : s.heap.IsList l #[v]) (h : ∀ h' tk, (∀ a o, s.heap.get? a = some o → h'.get? a = some o) → Q v { s with heap := h', toks := tk }) :
    wpAny (model prog w) A (call (.builtin "min") [.ref l]) Q E s := by
  refine call_function_tree F.kind_min F.plain_min F.entry_min (F.args_min1 _) ?_
  show wpAny _ A.in1 (Builtin.Builtins.bindParams "min" ["key", "default"] 0 ⟨[], []⟩ >>= _) _ _ s
  refine wpAny_bind (wpAny_of_eq (show Builtin.Builtins.bindParams "min" ["key", "default"] 0 ⟨[], []⟩ = pure [none, none] from rfl) ?_)
  refine wpAny_bind (wpAny_pure (wpAny_bind (iterOf hl fun hne hi hl2 => wpAny_bind (wpAny_newObj_type ?_))))
  have W := Walks.list (prog := prog) (w := w) (A := A.in1) hh s.heap.objs.size l hne #[v]
  have hnf : (s.heap.push { cls := .type "list_iterator", data := .fields #[.ref l, .int 0 0] }).objs.size ∉ [s.heap.objs.size, l] := fun hm => by
    rw [Heap.size_push] at hm
    have lt := Heap.lt_size hl.choose_spec.1
    rcases List.mem_cons.mp hm with z | z
    · exact Nat.succ_ne_self _ z
    · rw [← List.mem_singleton.mp z] at lt
      exact Nat.lt_irrefl _ (Nat.lt_of_succ_lt lt)
  rw [loopName]
  refine wpAny_pure ⟨plainId_quiet F.plain_min_loop _, ?_⟩
  refine minFirst W (fun _ _ => false) (fun j hj => absurd hj (by simp)) _ hnf _ (by simp) (W.frame 0 _ _ ⟨hi, hl2⟩ fun b _ o e => Heap.get?_push_of_some _ e) (Heap.get?_push_size _ rfl) fun u h1 t1 pu k1 => ?_
  have eu : u = v := by
    have : (#[v] : Array Value)[0]? = some u := pu
    simpa using this.symm
  rw [eu]
  exact h h1 t1 (kept2 k1)
end
end Cu
set_option Elab.async false
set_option linter.all false
set_option maxRecDepth 100000
set_option maxHeartbeats 2000000
set_option exponentiation.threshold 2000
namespace Cu
open PySem PySem.Spec PyProof.Rows L2

section
variable {X : Cx} {e a b : Expr} {ρ : Rho} {pos p kpos : Pos}
def rMinD (K : PySem.W.Frag) : List V → List V → Hp → VK → Prop := fun vs zs H Q => ∃ (l : Addr) (ns : List Int), vs = [.ref l] ∧ zs = [.non] ∧ SqL K H l (ns.map V.int) ∧ (ns = [] → Q .non H) ∧ ∀ m, m ∈ ns → (∀ y ∈ ns, m ≤ y) → Q (.int m) H
theorem cr_minD (hc : X.calm = true) : CallRK X (.builtin "min") ["default"] (rMinD X.K) := by
  intro pins s σ H xs zs us ws Q I r1 r2 h
  obtain ⟨l, ns, rfl, rfl, hS, q0, q1⟩ := h
  obtain rfl := r1.ref1
  obtain ⟨u, rfl, ru⟩ := r2.one
  obtain rfl : u = Value.none := ru
  obtain ⟨its, rv, hl, hz⟩ := I.list hS
  have len : its.length = ns.length := by
    have := rv.length
    rw [List.length_map] at this
    exact this.symm
  have at_ : ∀ (i : Nat) (v : Value), its.toArray[i]? = some v → ∃ t, v = Value.int (ns.getD i 0) t := fun i v hv => by
    have hv' : its[i]? = some v := by simpa using hv
    have hi : i < ns.length := by
      have := (List.getElem?_eq_some_iff.mp hv').1
      omega
    obtain ⟨w', h1, h2⟩ := rv.get (i := i) (x := .int ns[i]) (by rw [List.getElem?_map, List.getElem?_eq_getElem hi]; rfl)
    rw [hv'] at h1
    obtain rfl := Option.some.inj h1
    obtain ⟨t, ht⟩ := h2
    refine ⟨t, ?_⟩
    rw [ht, List.getD_eq_getElem?_getD, List.getElem?_eq_getElem hi]
    rfl
  refine minDefault (I.ok.hd hc) hl.isList (fun i j => decide (ns.getD i 0 < ns.getD j 0)) (fun j _ u v s' Q' E' hu hv hq => CmpOf.ints_lt (fun i => ns.getD i 0) at_ _ _ u v s' Q' E' hu hv hq) .none fun v h' tk hv k => ?_
  have I' : Inv X pins σ H { s with heap := h', toks := tk } := I.kept k
  rcases hv with ⟨z, rfl⟩ | ⟨z, hv⟩
  · have : ns = [] := List.eq_nil_of_length_eq_zero (by rw [← len]; simpa using z)
    exact ⟨.non, H, I', rfl, q0 this⟩
  · obtain ⟨t, rfl⟩ := at_ _ _ hv
    have hn : its.toArray.size = ns.length := by rw [List.size_toArray, len]
    obtain ⟨h1, h2⟩ := argBest_lt (fun i => ns.getD i 0) (its.toArray.size - 1)
    have g : ∀ i, i < ns.length → ns.getD i 0 ∈ ns := fun i hi => by
      rw [List.getD_eq_getElem?_getD, List.getElem?_eq_getElem hi]
      exact List.getElem_mem hi
    refine ⟨.int _, H, I', ⟨t, rfl⟩, q1 _ (g _ (by omega)) fun y hy => ?_⟩
    obtain ⟨j, hj⟩ := List.getElem?_of_mem hy
    have hj' := (List.getElem?_eq_some_iff.mp hj).1
    have := h2 j (by omega)
    have e : ns.getD j 0 = y := by rw [List.getD_eq_getElem?_getD, hj]; rfl
    rw [e] at this
    exact this
theorem ev_minD {ns : List Int} {r : PyData} (hm : X.mg "min" = none) (ha : Ev X a ρ (pL (ns.map PyData.int))) (hb : Ev X b ρ pN) (h : (ns = [] ∧ r = .none) ∨ ∃ m, m ∈ ns ∧ (∀ y ∈ ns, m ≤ y) ∧ r = .int m) (hc : X.calm = true := by rfl) (hg : Gl X "min" := by rfl)
    (he : starEach [a] X.env = (false, eval a X.env) :: starEach [] X.env := by rfl) (he2 : backTo pos (starEach [a] X.env) = (false, eval a X.env) :: backTo pos (starEach [] X.env) := by rfl) (hpl : (backTo pos (starEach [a] X.env)).any (·.1) = false := by rfl)
    (hall : (backToKw pos (keywordEach [⟨some "default", b, kpos⟩] X.env)).all (·.1.isSome) = true := by rfl) (hnone : (backToKw pos (keywordEach [⟨some "default", b, kpos⟩] X.env)).any (·.1.isNone) = false := by rfl)
    (hks : (backToKw pos (keywordEach [⟨some "default", b, kpos⟩] X.env)).filterMap (·.1) = (["default"] : List Str) := by rfl) : Ev X (.Call (.Name "min" p) [a] [⟨some "default", b, kpos⟩] pos) ρ (dat r) :=
  pe_to (pe_callBK (cr_minD hc) hg hm (by decide +kernel) (eva_cons ha eva_nil he) (evk_cons hb evk_nil) (by decide) (by decide) he2 hpl hall hnone hks) fun σ H Q ⟨st, k⟩ => ⟨st, fun vs H1 e1 q1 => ⟨st.mono e1, fun zs H2 e2 q2 => by
    obtain ⟨v, rfl, r1⟩ := ps1 q1
    obtain ⟨z, rfl, r2⟩ := ps1 q2
    obtain rfl := r2.ofN
    obtain ⟨l, xs, rfl, hl, q⟩ := (r1.mono e2).ofL
    rw [q.ints] at hl
    refine ⟨l, ns, rfl, rfl, SqL.of hl, fun z => ?_, fun m hm hy => ?_⟩
    · rcases h with ⟨_, rfl⟩ | ⟨m, hm, _⟩
      · exact k _ H2 (e1.trans e2) .non
      · rw [z] at hm
        cases hm
    · rcases h with ⟨z, _⟩ | ⟨m', hm', hy', rfl⟩
      · rw [z] at hm
        cases hm
      · rw [show m = m' from Int.le_antisymm (hy m' hm') (hy' m hm)]
        exact k _ H2 (e1.trans e2) (.int _)⟩⟩
def rMinO (K : PySem.W.Frag) : List V → Hp → VK → Prop := fun vs H Q => ∃ (l : Addr) (x : V), vs = [.ref l] ∧ SqL K H l [x] ∧ Q x H
theorem cr_minO (hc : X.calm = true) : CallR X (.builtin "min") (rMinO X.K) := by
  intro pins s σ H xs us Q I r1 h
  obtain ⟨l, x, rfl, hS, q⟩ := h
  obtain rfl := r1.ref1
  obtain ⟨its, rv, hl, hz⟩ := I.list hS
  obtain ⟨u, rfl, ru⟩ := rv.one
  exact minOne (I.ok.hd hc) hl.isList fun h' tk k => ⟨x, H, I.kept k, ru, q⟩
/-- min of a list with one item -/
theorem ev_minO {d : PyData} (hm : X.mg "min" = none) (ha : Ev X a ρ (pL [d])) (hc : X.calm = true := by rfl) (hg : Gl X "min" := by rfl) (he : starEach [a] X.env = (false, eval a X.env) :: starEach [] X.env := by rfl) :
    Ev X (.Call (.Name "min" p) [a] [] pos) ρ (dat d) :=
  ev_cB (cr_minO hc) hm (by decide +kernel) (eva_cons ha eva_nil he) (fun H vs Q q k => by
    obtain ⟨v, rfl, r⟩ := ps1 q
    obtain ⟨l, xs, rfl, hl, q2⟩ := r.ofL
    cases q2 with
    | cons h1 h2 =>
      cases h2
      exact ⟨l, _, rfl, SqL.of hl, k _ H (Same.refl H) h1⟩) hg (by decide) (by decide) he rfl
end
/-- the least of some ints, if there are any -/
def minO : List Int → Option Int
  | [] => none
  | a :: r => some (-(mx (-a) (r.map fun z => -z)))
theorem minO_some {a m : Int} {r : List Int} (h : minO (a :: r) = some m) : m ∈ a :: r ∧ ∀ y ∈ a :: r, m ≤ y := by
  have hm : -(mx (-a) (r.map fun z => -z)) = m := Option.some.inj h
  obtain ⟨h1, h2⟩ := mx_spec (-a) (r.map fun z => -z)
  have hc : (-a) :: (r.map fun z => -z) = (a :: r).map fun z => -z := rfl
  rw [hc] at h1 h2
  refine ⟨?_, fun y hy => ?_⟩
  · obtain ⟨z, hz, ez⟩ := List.mem_map.mp h1
    rw [show m = z by omega]
    exact hz
  · have := h2 (-y) (List.mem_map.mpr ⟨y, hy, rfl⟩)
    omega
def optI : Option Int → PyData
  | none => .none
  | some i => .int i
theorem minO_case (ns : List Int) : (ns = [] ∧ optI (minO ns) = .none) ∨ ∃ m, m ∈ ns ∧ (∀ y ∈ ns, m ≤ y) ∧ optI (minO ns) = .int m := by
  cases ns with
  | nil => exact .inl ⟨rfl, rfl⟩
  | cons a r => exact .inr ⟨_, (minO_some rfl).1, (minO_some rfl).2, rfl⟩
/-- the first minute of a class that is not ahead of t -/
def laterF (t : Int) (c : Int × Int) : Int := c.1 + max 0 (t - c.1 + c.2 - 1) / c.2 * c.2
noncomputable def nextHalf (w h : Int) (a b : Ball) (t : Int) : Option Int := minO ((halfs w h a b).map (laterF t))
theorem mem_fromMin {cs : List (Int × Int)} {t : Int} {c : Int × Int} (h : c ∈ fromMin cs t) : ∃ d ∈ cs, c = (t + (d.1 - t) % d.2, d.2) := by
  obtain ⟨d, hd, e⟩ := List.mem_map.mp ((sortP_perm _).mem_iff.mp h)
  exact ⟨d, hd, e.symm⟩
theorem fromMin_len (cs : List (Int × Int)) (t : Int) : (fromMin cs t).length = cs.length := by
  unfold fromMin
  rw [(sortP_perm _).length_eq, List.length_map]
section
variable {P : Program} {w : World} {K : PySem.W.Frag} {mg : Str → Option Value} {base : Heap} {C : Addr} {W Hh : Int}
theorem df_nextHalf (T : Txt K mg C) (a b : Ball) (t : Int) (oa : OkBall W Hh a) (ob : OkBall W Hh b) (hw : 0 < W) (hw2 : W ≤ 10 ^ 30) (hh : 0 < Hh) (hh2 : Hh ≤ 10 ^ 30) (t0 : 0 ≤ t) (t1 : t ≤ 10 ^ 31) :
    Dfn P w K mg base "next_half" 7 [tab C W Hh, dat a.d, dat b.d, pI t] (dat (optI (nextHalf W Hh a b t))) := by
  have bnd : ∀ x ∈ halfs W Hh a b, 0 < x.2 ∧ x.2 < 2 ^ 300 ∧ 0 ≤ x.1 ∧ x.1 < 2 ^ 301 := fun x hx => by
    obtain ⟨d, hd, rfl⟩ := mem_fromMin hx
    have cl := pairCl_cl hw hw2 hh hh2 d hd
    have p := cl.pos
    have l := cl.lt
    have m0 : 0 ≤ max a.m b.m := by have := oa.m0; omega
    have m1 : max a.m b.m ≤ 10 ^ 30 := by have := oa.m1; have := ob.m1; omega
    have e1 := Int.emod_nonneg (d.1 - max a.m b.m) (show d.2 ≠ 0 by omega)
    have e2 := Int.emod_lt_of_pos (d.1 - max a.m b.m) p
    refine ⟨p, l, by show 0 ≤ max a.m b.m + _; omega, ?_⟩
    show max a.m b.m + (d.1 - max a.m b.m) % d.2 < 2 ^ 301
    have e3 : (2 : Int) ^ 301 = 2 ^ 300 * 2 := Int.pow_succ ..
    have e4 : (10 : Int) ^ 30 ≤ 2 ^ 300 := by decide
    omega
  refine dfn_of T.next_half scNextHalf rfl (fun _ _ _ _ _ _ us hl => match us, hl with | [_, _, _, _], _ => rfl) fun f cdv A outer s' H E hr => ?_
  refine svs_cons (sv_set 4 scNextHalf.nd (ev_call (df_halfs T a b oa ob hw hw2 hh hh2) hr (eva_cons (ev_var 0) (eva_cons (ev_var 1) (eva_cons (ev_var 2) eva_nil)))))
    (svs_cons (sv_setLc (xs := halfs W Hh a b) (enc := pr2) (pr := fun _ => true) (gd := fun c => .int (laterF t c)) 5 [("first", 6), ("modulus", 7)] scNextHalf.nd (blkOk_by (N := nNextHalf) (sc := defScope sNextHalf) (by decide +kernel)) (evi_list (ev_var 4)) (by decide)
      (fun x hx s H C cl fp => tg_tup (tgs_cons (tg_name 6 scNextHalf.nd) (tgs_cons (tg_name 7 scNextHalf.nd) tgs_nil)) rfl) (fun x hx s H C cl fp => evts_nil)
      (fun x hx _ s H C cl fp => ev_add (ev_var 6) (ev_mulW (ev_divW (ev_max2 T.zMax ev_int (ev_sub (ev_add (ev_sub (ev_var 3) (ev_var 6)) (ev_var 7)) ev_int)) (ev_var 7) ?_) (ev_var 7) ?_)) (fun x hx => rfl) (by unfold halfs; rw [fromMin_len]; exact Nat.le_trans (pairCl_len ..) (by decide))
      (sw_true rfl rfl rfl (by decide +kernel)))
    (svs_one (sv_ret (ev_minD (ns := (halfs W Hh a b).map (laterF t)) T.zMin (ev_cast (ev_var 5) ?_) ev_non (minO_case _)))))
  · obtain ⟨h1, h2, _, _⟩ := bnd x hx
    exact divW (n := 300) (by decide) (by decide) h1 h2
  · obtain ⟨h1, h2, h3, h4⟩ := bnd x hx
    refine mulW (n := 302) (by decide) (by decide) ?_ (lt_pow (by omega) (Int.lt_trans h2 (by decide)))
    have e4 : (10 : Int) ^ 31 ≤ 2 ^ 300 := by decide
    have e5 : (2 : Int) ^ 302 = 2 ^ 300 * 4 := Int.pow_add 2 300 2
    have q0 : 0 ≤ max 0 (t - x.1 + x.2 - 1) / x.2 := Int.ediv_nonneg (by omega) (by omega)
    refine lt_pow q0 ?_
    have q1 : max 0 (t - x.1 + x.2 - 1) / x.2 ≤ max 0 (t - x.1 + x.2 - 1) := Int.ediv_le_self _ (by omega)
    omega
  · rw [filter_yes, ints_map]
end
end Cu
set_option Elab.async false
set_option linter.all false
set_option maxRecDepth 100000
set_option maxHeartbeats 2000000
set_option exponentiation.threshold 5000
namespace Cu
open PySem PySem.Spec PyProof.Rows L2

/-! ### the law's small defs -/
def lawPart (n p s t : Int) : Int :=
  if (p + s * t) / n % 2 = 1 then n - (p + s * t - (p + s * t) / n * n) else p + s * t - (p + s * t) / n * n
def whereF (w h : Int) (b : Ball) (t : Int) : Int × Int := (lawPart w b.x b.dx (t - b.m), lawPart h b.y b.dy (t - b.m))
def phB (n p s t : Int) : Int := if s = -1 then (2 * n - p - t) % (2 * n) else (p - t) % (2 * n)
def lawBack (n p s t : Int) : Int × Int :=
  if s = 0 then (p, 0) else if phB n p s t < n then (phB n p s t, 1) else (2 * n - phB n p s t, -1)
def ledF (w h : Int) (nm : Str) (pt hd : Int × Int) (t m : Int) : Ball :=
  ⟨nm, (lawBack w pt.1 hd.1 (t - m)).1, (lawBack h pt.2 hd.2 (t - m)).1, (lawBack w pt.1 hd.1 (t - m)).2, (lawBack h pt.2 hd.2 (t - m)).2, m⟩
def middleF (w h : Int) (b : Ball) (t : Int) : Int × Int := ((placeAt w h b t).1 + (placeAt w h b (t + 1)).1, (placeAt w h b t).2 + (placeAt w h b (t + 1)).2)
def inRow (t : Int) (c : Int × Int) : Bool := decide (c.1 ≤ t) && decide ((t - c.1) % c.2 = 0)
def isInF (cs : List (Int × Int)) (t : Int) : Bool := decide ((0 : Int) < ((cs.filter (inRow t)).length : Nat))
def nextF (t : Int) (c : Int × Int) : Int := max c.1 (t + (c.1 - t) % c.2)
section
variable {P : Program} {w : World} {K : PySem.W.Frag} {mg : Str → Option Value} {base : Heap} {C : Addr} {W Hh : Int}
theorem df_lawPart (T : Txt K mg C) (n p s t : Int) (hn : 0 < n) (h1 : n < 2 ^ 1000) (hs : s.natAbs < 2 ^ 1000) (ht : t.natAbs < 2 ^ 1000) (hp : p.natAbs < 2 ^ 1000) :
    Dfn P w K mg base "_law_part" 1 [pI n, pI p, pI s, pI t] (pI (lawPart n p s t)) := by
  have hst : (s * t).natAbs < 2 ^ 2000 := by
    rw [Int.natAbs_mul, show (2 : Nat) ^ 2000 = 2 ^ 1000 * 2 ^ 1000 from Nat.pow_add 2 1000 1000]
    exact Nat.mul_lt_mul_of_lt_of_le hs (Nat.le_of_lt ht) (Nat.two_pow_pos 1000)
  have hq : ((p + s * t) / n).natAbs < 2 ^ 2002 := by
    have e1 : (p + s * t).natAbs < 2 ^ 2001 := by
      have e2 : (2 : Nat) ^ 2001 = 2 ^ 2000 * 2 := Nat.pow_succ ..
      have e3 : (2 : Nat) ^ 1000 ≤ 2 ^ 2000 := Nat.pow_le_pow_right (by decide) (by decide)
      omega
    have e4 : ((p + s * t) / n).natAbs ≤ (p + s * t).natAbs := Int.natAbs_ediv_le_natAbs _ _
    have e5 : (2 : Nat) ^ 2002 = 2 ^ 2001 * 2 := Nat.pow_succ ..
    omega
  refine dfn_of T.law_part scLawPart rfl (fun _ _ _ _ _ _ us hl => match us, hl with | [_, _, _, _], _ => rfl) fun f cdv A outer s' H E hr => ?_
  refine svs_cons (sv_set 4 scLawPart.nd (ev_add (ev_var 1) (ev_mulW (ev_var 2) (ev_var 3) (mulW (n := 1000) (by decide) (by decide) hs ht))))
    (svs_cons (sv_set 5 scLawPart.nd (ev_divW (ev_var 4) (ev_var 0) (divW (n := 1000) (by decide) (by decide) hn h1)))
    (svs_cons (sv_set 6 scLawPart.nd (ev_sub (ev_var 4) (ev_mulW (ev_var 5) (ev_var 0) (mulW (n := 2002) (by decide) (by decide) hq ?_))))
    (svs_cons (ρ1 := [some (pI n), some (pI p), some (pI s), some (pI t), some (pI (p + s * t)), some (pI ((p + s * t) / n)), some (pI (lawPart n p s t))])
      (sv_if (evt_eq (ev_mod (ev_toint T.zInt (ev_var 5)) ev_int (by decide)) ev_int) (fun h => svs_one ?_) (fun h => ?_)) (svs_one (sv_ret (ev_var 6))))))
  · have e3 : (2 : Nat) ^ 1000 ≤ 2 ^ 2002 := Nat.pow_le_pow_right (by decide) (by decide)
    have := lt_pow (by omega) h1
    omega
  · have e : lawPart n p s t = n - (p + s * t - (p + s * t) / n * n) := if_pos (dTrue h)
    rw [e]
    exact sv_set 6 scLawPart.nd (ev_sub (ev_var 0) (ev_var 6))
  · have e : lawPart n p s t = p + s * t - (p + s * t) / n * n := if_neg (dFalse h)
    rw [e]
    exact svs_nil
/-- numbers that the law meets -/
structure Fit (w h t : Int) (b : Ball) : Prop where
  x : b.x.natAbs < 2 ^ 1000
  y : b.y.natAbs < 2 ^ 1000
  dx : b.dx.natAbs < 2 ^ 1000
  dy : b.dy.natAbs < 2 ^ 1000
  t : (t - b.m).natAbs < 2 ^ 1000
theorem df_lawWhere (T : Txt K mg C) (b : Ball) (t : Int) (ft : Fit W Hh t b) (hw : 0 < W) (hw2 : W ≤ 10 ^ 30) (hh : 0 < Hh) (hh2 : Hh ≤ 10 ^ 30) :
    Dfn P w K mg base "_law_where" 2 [pI W, pI Hh, dat b.d, pI t] (dat (pr2 (whereF W Hh b t))) := by
  have big : (10 : Int) ^ 30 < 2 ^ 1000 := by decide
  refine dfn_of T.law_where scLawWhere rfl (fun _ _ _ _ _ _ us hl => match us, hl with | [_, _, _, _], _ => rfl) fun f cdv A outer s' H E hr => ?_
  exact svs_cons (sv_asg (ev_var 2) (tg_tup (tgs_cons (tg_name 4 scLawWhere.nd) (tgs_cons (tg_name 5 scLawWhere.nd) (tgs_cons (tg_name 6 scLawWhere.nd) (tgs_cons (tg_name 7 scLawWhere.nd) (tgs_cons (tg_name 8 scLawWhere.nd) (tgs_cons (tg_name 9 scLawWhere.nd) tgs_nil)))))) rfl))
    (svs_one (sv_ret (ev_tup (evd_cons (ev_call (df_lawPart T W b.x b.dx (t - b.m) hw (Int.lt_of_le_of_lt hw2 big) ft.dx ft.t ft.x) hr (eva_cons (ev_var 0) (eva_cons (ev_var 5) (eva_cons (ev_var 7) (eva_cons (ev_sub (ev_var 3) (ev_var 9)) eva_nil)))))
      (evd_cons (ev_call (df_lawPart T Hh b.y b.dy (t - b.m) hh (Int.lt_of_le_of_lt hh2 big) ft.dy ft.t ft.y) hr (eva_cons (ev_var 1) (eva_cons (ev_var 6) (eva_cons (ev_var 8) (eva_cons (ev_sub (ev_var 3) (ev_var 9)) eva_nil))))) evd_nil)))))
theorem df_lawBack (T : Txt K mg C) (n p s t : Int) (hn : 0 < n) : Dfn P w K mg base "_law_back" 1 [pI n, pI p, pI s, pI t] (dat (pr2 (lawBack n p s t))) := by
  refine dfn_of T.law_back scLawBack rfl (fun _ _ _ _ _ _ us hl => match us, hl with | [_, _, _, _], _ => rfl) fun f cdv A outer s' H E hr => ?_
  refine svs_if (evt_eq (ev_var 2) ev_int) (fun h => svs_one (sv_ret' (ev_tup (evd_cons (ev_var 1) (evd_cons ev_int evd_nil))) ?_)) (fun h =>
    svs_cons (sv_set 4 scLawBack.nd (ev_mod (ev_toint T.zInt (ev_sub (ev_var 1) (ev_var 3))) (ev_mul ev_int (ev_var 0) (.inl (by decide))) (by omega)))
    (svs_cons (ρ1 := [some (pI n), some (pI p), some (pI s), some (pI t), some (pI (phB n p s t))]) (sv_if (evt_eq (ev_var 2) (ev_neg ev_int)) (fun h => svs_one ?_) (fun h => ?_))
    (svs_if (evt_lt (ev_var 4) (ev_var 0)) (fun h2 => svs_one (sv_ret' (ev_tup (evd_cons (ev_var 4) (evd_cons ev_int evd_nil))) ?_))
      (fun h2 => svs_one (sv_ret' (ev_tup (evd_cons (ev_sub (ev_mul ev_int (ev_var 0) (.inl (by decide))) (ev_var 4)) (evd_cons (ev_neg ev_int) evd_nil))) ?_)))))
  · unfold lawBack
    rw [if_pos (dTrue h)]
    rfl
  · have e : phB n p s t = (2 * n - p - t) % (2 * n) := if_pos (dTrue h)
    rw [e]
    exact sv_set 4 scLawBack.nd (ev_mod (ev_toint T.zInt (ev_sub (ev_sub (ev_mul ev_int (ev_var 0) (.inl (by decide))) (ev_var 1)) (ev_var 3))) (ev_mul ev_int (ev_var 0) (.inl (by decide))) (by omega))
  · have e : phB n p s t = (p - t) % (2 * n) := if_neg (dFalse h)
    rw [e]
    exact svs_nil
  · unfold lawBack
    rw [if_neg (dFalse h), if_pos (dTrue h2)]
    rfl
  · unfold lawBack
    rw [if_neg (dFalse h), if_neg (dFalse h2)]
    rfl
theorem df_lawLed (T : Txt K mg C) (nm : Str) (pt hd : Int × Int) (t m : Int) (hw : 0 < W) (hh : 0 < Hh) :
    Dfn P w K mg base "_law_led" 2 [pI W, pI Hh, pS nm, dat (pr2 pt), dat (pr2 hd), pI t, pI m] (dat (ledF W Hh nm pt hd t m).d) := by
  refine dfn_of T.law_led scLawLed rfl (fun _ _ _ _ _ _ us hl => match us, hl with | [_, _, _, _, _, _, _], _ => rfl) fun f cdv A outer s' H E hr => ?_
  exact svs_cons (sv_asg (ev_call (df_lawBack T W pt.1 hd.1 (t - m) hw) hr (eva_cons (ev_var 0) (eva_cons (ev_ixT (d := .int pt.1) (ev_var 3) ev_int) (eva_cons (ev_ixT (d := .int hd.1) (ev_var 4) ev_int) (eva_cons (ev_sub (ev_var 5) (ev_var 6)) eva_nil))))) (tg_tup (tgs_cons (tg_name 7 scLawLed.nd) (tgs_cons (tg_name 8 scLawLed.nd) tgs_nil)) rfl))
    (svs_cons (sv_asg (ev_call (df_lawBack T Hh pt.2 hd.2 (t - m) hh) hr (eva_cons (ev_var 1) (eva_cons (ev_ixT (d := .int pt.2) (ev_var 3) ev_int) (eva_cons (ev_ixT (d := .int hd.2) (ev_var 4) ev_int) (eva_cons (ev_sub (ev_var 5) (ev_var 6)) eva_nil))))) (tg_tup (tgs_cons (tg_name 9 scLawLed.nd) (tgs_cons (tg_name 10 scLawLed.nd) tgs_nil)) rfl))
    (svs_one (sv_ret (ev_tup (evd_cons (ev_var 2) (evd_cons (ev_var 7) (evd_cons (ev_var 9) (evd_cons (ev_var 8) (evd_cons (ev_var 10) (evd_cons (ev_var 6) evd_nil)))))))))) 
theorem df_lawMiddle (T : Txt K mg C) (b : Ball) (ok : OkBall W Hh b) (hW : 0 < W) (hH : 0 < Hh) (t : Int) (ht : b.m ≤ t) :
    Dfn P w K mg base "_law_middle" 5 [tab C W Hh, dat b.d, pI t] (dat (pr2 (middleF W Hh b t))) := by
  refine dfn_of T.law_middle scLawMiddle rfl (fun _ _ _ _ _ _ us hl => match us, hl with | [_, _, _], _ => rfl) fun f cdv A outer s' H E hr => ?_
  exact svs_cons (sv_set 3 scLawMiddle.nd (ev_call (df_placeAt T b ok hW hH t ht) hr (eva_cons (ev_var 0) (eva_cons (ev_var 1) (eva_cons (ev_var 2) eva_nil)))))
    (svs_cons (sv_set 4 scLawMiddle.nd (ev_call (df_placeAt T b ok hW hH (t + 1) (by omega)) hr (eva_cons (ev_var 0) (eva_cons (ev_var 1) (eva_cons (ev_add (ev_var 2) ev_int) eva_nil)))))
    (svs_one (sv_ret (ev_tup (evd_cons (ev_add (ev_ixT (d := .int (placeAt W Hh b t).1) (ev_var 3) ev_int) (ev_ixT (d := .int (placeAt W Hh b (t + 1)).1) (ev_var 4) ev_int))
      (evd_cons (ev_add (ev_ixT (d := .int (placeAt W Hh b t).2) (ev_var 3) ev_int) (ev_ixT (d := .int (placeAt W Hh b (t + 1)).2) (ev_var 4) ev_int)) evd_nil))))))
theorem df_lawIsIn (T : Txt K mg C) (cs : List (Int × Int)) (t : Int) (hp : ∀ c ∈ cs, 0 < c.2) (hz : cs.length ≤ 1000) :
    Dfn P w K mg base "_law_is_in" 1 [pL (cs.map pr2), pI t] (pB (isInF cs t)) := by
  refine dfn_of T.law_is_in scLawIsIn rfl (fun _ _ _ _ _ _ us hl => match us, hl with | [_, _], _ => rfl) fun f cdv A outer s' H E hr => ?_
  refine svs_one (sv_ret (ev_cast (ev_gt (ev_lenL T.zLen (ev_lc (xs := cs) (enc := pr2) (pr := inRow t) (gd := pr2) [("_law_row_here", 2)] scLawIsIn.nd (blkOk_by (N := nLawIsIn) (sc := defScope sLawIsIn) (by decide +kernel)) (evi_list (ev_var 0)) (by decide)
    (fun x hx s H C cl fp => tg_name 2 scLawIsIn.nd) (fun x hx s H C cl fp => evts_one (evt_w (evw_and (evt_ge (ev_var 1) (ev_ixT (d := .int x.1) (ev_var 2) ev_int))
      (fun _ => evw_and1 (evt_eq (ev_mod (ev_toint T.zInt (ev_sub (ev_var 1) (ev_ixT (d := .int x.1) (ev_var 2) ev_int))) (ev_ixT (d := .int x.2) (ev_var 2) ev_int) (hp x hx)) ev_int)))))
    (fun x hx _ s H C cl fp => ev_var 2) (fun x hx => rfl) hz)) ev_int) ?_))
  rw [List.length_map]
  rfl
theorem df_lawNextIn (T : Txt K mg C) (cs : List (Int × Int)) (t : Int) (hp : ∀ c ∈ cs, 0 < c.2) (hz : cs.length ≤ 1000) :
    Dfn P w K mg base "_law_next_in" 1 [pL (cs.map pr2), pI t] (dat (optI (minO (cs.map (nextF t))))) := by
  refine dfn_of T.law_next_in scLawNextIn rfl (fun _ _ _ _ _ _ us hl => match us, hl with | [_, _], _ => rfl) fun f cdv A outer s' H E hr => ?_
  refine svs_cons (sv_setLc (xs := cs) (enc := pr2) (pr := fun _ => true) (gd := fun c => .int (nextF t c)) 2 [("_law_first", 3), ("_law_modulus", 4)] scLawNextIn.nd (blkOk_by (N := nLawNextIn) (sc := defScope sLawNextIn) (by decide +kernel)) (evi_list (ev_var 0)) (by decide)
      (fun x hx s H C cl fp => tg_tup (tgs_cons (tg_name 3 scLawNextIn.nd) (tgs_cons (tg_name 4 scLawNextIn.nd) tgs_nil)) rfl) (fun x hx s H C cl fp => evts_nil)
      (fun x hx _ s H C cl fp => ev_max2 T.zMax (ev_var 3) (ev_add (ev_var 1) (ev_mod (ev_toint T.zInt (ev_sub (ev_var 3) (ev_var 1))) (ev_var 4) (hp x hx)))) (fun x hx => rfl) hz
      (sw_true rfl rfl rfl (by decide +kernel)))
    (svs_one (sv_ret (ev_minD (ns := cs.map (nextF t)) T.zMin (ev_cast (ev_var 2) ?_) ev_non (minO_case _))))
  rw [filter_yes, ints_map]
end
end Cu
set_option Elab.async false
set_option linter.all false
set_option maxRecDepth 100000
set_option maxHeartbeats 2000000
set_option exponentiation.threshold 2000
namespace Cu
open PySem PySem.Spec PyProof.Rows L2

/-! ### numbers of the law -/
def num (ns : List Int) (i : Nat) : Int := ns.getD i 0
def Nums (ns : List Int) : Prop := ns.length = 200 ∧ ∀ n ∈ ns, 0 ≤ n ∧ n ≤ 1008
theorem Nums.at {ns : List Int} (h : Nums ns) (i : Nat) (hi : i < 200) : L2.atI (ns.map PyData.int) ((i : Nat) : Int) = some (.int (num ns i)) :=
  L2.atI_nat (by
    unfold num
    rw [List.getElem?_map, List.getD_eq_getElem?_getD, List.getElem?_eq_getElem (by rw [h.1]; exact hi)]
    rfl)
theorem Nums.bd {ns : List Int} (h : Nums ns) (i : Nat) : 0 ≤ num ns i ∧ num ns i ≤ 1008 := by
  unfold num
  rw [List.getD_eq_getElem?_getD]
  cases e : ns[i]? with
  | none => exact ⟨by decide, by decide⟩
  | some n => exact h.2 n (List.mem_of_getElem? e)
def gTot (ns : List Int) (at_ : Nat) : Nat → Int
  | 0 => 0
  | k + 1 => gTot ns at_ k * 10007 + num ns (at_ + 1 + k)
def gMany (ns : List Int) (at_ : Nat) : Nat := (1 + num ns at_ % 9).toNat
def great (ns : List Int) (at_ : Nat) : Int := min (10 ^ 30) (1 + gTot ns at_ (gMany ns at_))
theorem gTot_bd {ns : List Int} (h : Nums ns) (at_ : Nat) : ∀ k, 0 ≤ gTot ns at_ k ∧ gTot ns at_ k < 10007 ^ k
  | 0 => ⟨Int.le_refl 0, show (0 : Int) < 10007 ^ 0 by decide⟩
  | k + 1 => by
    obtain ⟨h1, h2⟩ := gTot_bd h at_ k
    obtain ⟨h3, h4⟩ := h.bd (at_ + 1 + k)
    have e : (10007 : Int) ^ (k + 1) = 10007 ^ k * 10007 := Int.pow_succ ..
    constructor
    · show 0 ≤ gTot ns at_ k * 10007 + num ns (at_ + 1 + k)
      omega
    · show gTot ns at_ k * 10007 + num ns (at_ + 1 + k) < 10007 ^ (k + 1)
      omega
theorem gMany_bd {ns : List Int} (h : Nums ns) (at_ : Nat) : 1 ≤ gMany ns at_ ∧ gMany ns at_ ≤ 9 := by
  unfold gMany
  omega
theorem great_bd {ns : List Int} (h : Nums ns) (at_ : Nat) : 1 ≤ great ns at_ ∧ great ns at_ ≤ 10 ^ 30 := by
  have := (gTot_bd h at_ (gMany ns at_)).1
  unfold great
  omega
section
variable {P : Program} {w : World} {K : PySem.W.Frag} {mg : Str → Option Value} {base : Heap} {C : Addr} {W Hh : Int}
theorem rng_at {lo : Int} {n i : Nat} {d : PyData} (h : (rng lo n)[i]? = some d) : i < n ∧ d = .int (lo + (i : Nat)) := by
  have hi : i < n := by
    have := (List.getElem?_eq_some_iff.mp h).1
    rwa [rng_len] at this
  unfold rng at h
  rw [List.getElem?_map, List.getElem?_range hi] at h
  exact ⟨hi, (Option.some.inj h).symm⟩
theorem df_great (T : Txt K mg C) (ns : List Int) (hn : Nums ns) (at_ : Nat) (ha : at_ ≤ 185) : Dfn P w K mg base "_law_great" 1 [pL (ns.map PyData.int), pI (at_ : Nat)] (pI (great ns at_)) := by
  have gm := gMany_bd hn at_
  have hb := hn.bd at_
  refine dfn_of T.law_great scLawGreat rfl (fun _ _ _ _ _ _ us hl => match us, hl with | [_, _], _ => rfl) fun f cdv A outer s' H E hr => ?_
  refine svs_cons (sv_set 2 scLawGreat.nd ev_int) (svs_cons (sv_for (ds := rng 0 (gMany ns at_)) PassesOwn.never (evi_rng1 T.zRange (ev_add ev_int (ev_mod (ev_toint T.zInt (ev_ixL (ev_var 0) (ev_var 1) (hn.at at_ (by omega)))) ev_int (by decide))) (by omega))
    (fun i => [some (pL (ns.map PyData.int)), some (pI (at_ : Nat)), some (pI (gTot ns at_ i)), none])
    (fun i => [some (pL (ns.map PyData.int)), some (pI (at_ : Nat)), some (pI (gTot ns at_ i)), some (pI (i : Nat))]) (fun _ => [3]) ⟨rfl, rfl, rfl, trivial⟩ (fun i d hd => ?_) (fun i d hd => ?_))
    (svs_one (sv_ret (ev_min2 T.zMin (ev_cast (ev_pow ev_int ev_int (by exact ⟨by decide, by decide⟩)) rfl) (ev_add ev_int (ev_cast (ev_var 2) ?_))))))
  · obtain ⟨hi, rfl⟩ := rng_at hd
    rw [Int.zero_add]
    exact tg_name 3 scLawGreat.nd
  · obtain ⟨hi, rfl⟩ := rng_at hd
    have e : ((at_ : Nat) : Int) + 1 + (i : Nat) = ((at_ + 1 + i : Nat) : Int) := by omega
    obtain ⟨g1, g2⟩ := gTot_bd hn at_ i
    have g3 : (10007 : Int) ^ i ≤ 10007 ^ 9 := by
      have e1 : ((10007 ^ i : Nat) : Int) = 10007 ^ i := by simp
      have e2 : ((10007 ^ 9 : Nat) : Int) = 10007 ^ 9 := by simp
      have := Nat.pow_le_pow_right (n := 10007) (by decide) (show i ≤ 9 by omega)
      omega
    have g4 : (10007 : Int) ^ 9 < 2 ^ 300 := by decide
    exact svs_weak_end (svs_one (sv_set 2 scLawGreat.nd (ev_add (ev_mulW (ev_var 2) ev_int (mulW (n := 300) (by decide) (by decide) (lt_pow g1 (by omega)) (by decide))) (ev_ixL (ev_var 0) (ev_cast (ev_add (ev_add (ev_var 1) ev_int) (ev_var 3)) (by rw [e])) (hn.at _ (by omega)))))) ⟨rfl, rfl, rfl, trivial⟩
  · rw [rng_len]
def dirs : List (Int × Int) := [(1, 1), (1, -1), (-1, 1), (-1, -1), (1, 0), (0, -1), (-1, 0), (0, 1)]
def dirAt (k : Int) : Int × Int := dirs.getD k.toNat (1, 1)
theorem dir_cases {k : Int} (h0 : 0 ≤ k) (h1 : k < 8) : k = 0 ∨ k = 1 ∨ k = 2 ∨ k = 3 ∨ k = 4 ∨ k = 5 ∨ k = 6 ∨ k = 7 := by omega
theorem dirAt_at {k : Int} (h0 : 0 ≤ k) (h1 : k < 8) : L2.atI (dirs.map pr2) k = some (pr2 (dirAt k)) := by
  rcases dir_cases h0 h1 with rfl | rfl | rfl | rfl | rfl | rfl | rfl | rfl <;> rfl
theorem dirAt_ok {k : Int} (h0 : 0 ≤ k) (h1 : k < 8) : ((dirAt k).1 = -1 ∨ (dirAt k).1 = 0 ∨ (dirAt k).1 = 1) ∧ ((dirAt k).2 = -1 ∨ (dirAt k).2 = 0 ∨ (dirAt k).2 = 1) ∧ ¬ ((dirAt k).1 = 0 ∧ (dirAt k).2 = 0) := by
  rcases dir_cases h0 h1 with rfl | rfl | rfl | rfl | rfl | rfl | rfl | rfl <;> decide
def gPow (ns : List Int) (at_ : Nat) : Nat := (num ns (at_ + 31) % 30).toNat
def greater (ns : List Int) (at_ : Nat) (w h : Int) (nm : Str) : Ball :=
  ⟨nm, great ns (at_ + 1) % (w + 1), great ns (at_ + 11) % (h + 1), (dirAt (num ns at_ % 8)).1, (dirAt (num ns at_ % 8)).2, great ns (at_ + 21) % 10 ^ gPow ns at_⟩
theorem df_greater (T : Txt K mg C) (ns : List Int) (hn : Nums ns) (at_ : Nat) (ha : at_ ≤ 160) (nm : Str) (hw : 0 < W) (hh : 0 < Hh) :
    Dfn P w K mg base "_law_greater" 2 [pL (ns.map PyData.int), pI (at_ : Nat), pI W, pI Hh, pS nm] (dat (greater ns at_ W Hh nm).d) := by
  have hb := hn.bd at_
  have hb2 := hn.bd (at_ + 31)
  have gp : gPow ns at_ < 30 := by unfold gPow; omega
  have c1 : ((at_ : Nat) : Int) + 1 = ((at_ + 1 : Nat) : Int) := by omega
  have c11 : ((at_ : Nat) : Int) + 11 = ((at_ + 11 : Nat) : Int) := by omega
  have c21 : ((at_ : Nat) : Int) + 21 = ((at_ + 21 : Nat) : Int) := by omega
  have c31 : ((at_ : Nat) : Int) + 31 = ((at_ + 31 : Nat) : Int) := by omega
  refine dfn_of T.law_greater scLawGreater rfl (fun _ _ _ _ _ _ us hl => match us, hl with | [_, _, _, _, _], _ => rfl) fun f cdv A outer s' H E hr => ?_
  refine svs_cons (sv_asg (ev_ixL (d := pr2 (dirAt (num ns at_ % 8))) (ev_cast (ev_lst (ds := dirs.map pr2)
      (evd_cons (ev_tup (evd_cons ev_int (evd_cons ev_int evd_nil))) (evd_cons (ev_tup (evd_cons ev_int (evd_cons (ev_neg ev_int) evd_nil))) (evd_cons (ev_tup (evd_cons (ev_neg ev_int) (evd_cons ev_int evd_nil))) (evd_cons (ev_tup (evd_cons (ev_neg ev_int) (evd_cons (ev_neg ev_int) evd_nil)))
      (evd_cons (ev_tup (evd_cons ev_int (evd_cons ev_int evd_nil))) (evd_cons (ev_tup (evd_cons ev_int (evd_cons (ev_neg ev_int) evd_nil))) (evd_cons (ev_tup (evd_cons (ev_neg ev_int) (evd_cons ev_int evd_nil))) (evd_cons (ev_tup (evd_cons ev_int (evd_cons ev_int evd_nil))) evd_nil))))))))) rfl)
      (ev_mod (ev_toint T.zInt (ev_ixL (ev_var 0) (ev_var 1) (hn.at at_ (by omega)))) ev_int (by decide)) (dirAt_at (by omega) (by omega)))
      (tg_tup (tgs_cons (tg_name 5 scLawGreater.nd) (tgs_cons (tg_name 6 scLawGreater.nd) tgs_nil)) rfl))
    (svs_cons (sv_set 7 scLawGreater.nd (ev_mod (ev_toint T.zInt (ev_call (df_great T ns hn (at_ + 1) (by omega)) hr (eva_cons (ev_var 0) (eva_cons (ev_cast (ev_add (ev_var 1) ev_int) (by rw [c1])) eva_nil)))) (ev_add (ev_var 2) ev_int) (by omega)))
    (svs_cons (sv_set 8 scLawGreater.nd (ev_mod (ev_toint T.zInt (ev_call (df_great T ns hn (at_ + 11) (by omega)) hr (eva_cons (ev_var 0) (eva_cons (ev_cast (ev_add (ev_var 1) ev_int) (by rw [c11])) eva_nil)))) (ev_add (ev_var 3) ev_int) (by omega)))
    (svs_cons (sv_set 9 scLawGreater.nd ev_int) (svs_cons (sv_for (ds := rng 0 (gPow ns at_)) PassesOwn.never (evi_rng1 T.zRange (ev_mod (ev_toint T.zInt (ev_ixL (ev_var 0) (ev_cast (ev_add (ev_var 1) ev_int) (by rw [c31])) (hn.at (at_ + 31) (by omega)))) ev_int (by decide)) (by omega))
      (fun i => [some (pL (ns.map PyData.int)), some (pI (at_ : Nat)), some (pI W), some (pI Hh), some (pS nm), some (pI (dirAt (num ns at_ % 8)).1), some (pI (dirAt (num ns at_ % 8)).2), some (pI (great ns (at_ + 1) % (W + 1))), some (pI (great ns (at_ + 11) % (Hh + 1))), some (pI (10 ^ i)), none])
      (fun i => [some (pL (ns.map PyData.int)), some (pI (at_ : Nat)), some (pI W), some (pI Hh), some (pS nm), some (pI (dirAt (num ns at_ % 8)).1), some (pI (dirAt (num ns at_ % 8)).2), some (pI (great ns (at_ + 1) % (W + 1))), some (pI (great ns (at_ + 11) % (Hh + 1))), some (pI (10 ^ i)), some (pI (i : Nat))])
      (fun _ => [10]) ⟨rfl, rfl, rfl, rfl, rfl, rfl, rfl, rfl, rfl, rfl, trivial⟩ (fun i d hd => ?_) (fun i d hd => ?_))
    (svs_one (sv_ret (ev_tup (evd_cons (ev_var 4) (evd_cons (ev_var 7) (evd_cons (ev_var 8) (evd_cons (ev_var 5) (evd_cons (ev_var 6) (evd_cons
      (ev_mod (ev_toint T.zInt (ev_call (df_great T ns hn (at_ + 21) (by omega)) hr (eva_cons (ev_var 0) (eva_cons (ev_cast (ev_add (ev_var 1) ev_int) (by rw [c21])) eva_nil)))) (ev_cast (ev_var 9) (by rw [rng_len])) ?_) evd_nil)))))))))))))
  · obtain ⟨hi, rfl⟩ := rng_at hd
    rw [Int.zero_add]
    exact tg_name 10 scLawGreater.nd
  · obtain ⟨hi, rfl⟩ := rng_at hd
    have g1 : (0 : Int) < 10 ^ i := Int.pow_pos (by decide)
    have g3 : (10 : Int) ^ i ≤ 10 ^ 30 := by
      have e1 : ((10 ^ i : Nat) : Int) = 10 ^ i := by simp
      have e2 : ((10 ^ 30 : Nat) : Int) = 10 ^ 30 := by simp
      have := Nat.pow_le_pow_right (n := 10) (by decide) (show i ≤ 30 by omega)
      omega
    have g4 : (10 : Int) ^ 30 < 2 ^ 300 := by decide
    exact svs_weak_end (svs_one (sv_set 9 scLawGreater.nd (ev_cast (ev_mulW (ev_var 9) ev_int (mulW (n := 300) (by decide) (by decide) (lt_pow (by omega) (by omega)) (by decide))) (by rw [← Int.pow_succ])))) ⟨rfl, rfl, rfl, rfl, rfl, rfl, rfl, rfl, rfl, rfl, trivial⟩
  · exact Int.pow_pos (by decide)
end
theorem greater_ok {ns : List Int} (hn : Nums ns) (at_ : Nat) {w h : Int} (hw : 0 < w) (hh : 0 < h) (c : Nat) (h1 : 97 ≤ c) (h2 : c ≤ 99) : OkBall w h (greater ns at_ w h (sgn c)) ∧ (greater ns at_ w h (sgn c)).m < 10 ^ 29 := by
  have hb := hn.bd at_
  obtain ⟨d1, d2, d3⟩ := dirAt_ok (k := num ns at_ % 8) (by omega) (by omega)
  have gp : gPow ns at_ ≤ 29 := by unfold gPow; omega
  have g1 : (0 : Int) < 10 ^ gPow ns at_ := Int.pow_pos (by decide)
  have g3 : (10 : Int) ^ gPow ns at_ ≤ 10 ^ 29 := by
    have e1 : ((10 ^ gPow ns at_ : Nat) : Int) = 10 ^ gPow ns at_ := by simp
    have e2 : ((10 ^ 29 : Nat) : Int) = 10 ^ 29 := by simp
    have := Nat.pow_le_pow_right (n := 10) (by decide) gp
    omega
  have x0 := Int.emod_nonneg (great ns (at_ + 1)) (show w + 1 ≠ 0 by omega)
  have x1 := Int.emod_lt_of_pos (great ns (at_ + 1)) (show 0 < w + 1 by omega)
  have y0 := Int.emod_nonneg (great ns (at_ + 11)) (show h + 1 ≠ 0 by omega)
  have y1 := Int.emod_lt_of_pos (great ns (at_ + 11)) (show 0 < h + 1 by omega)
  have m0 := Int.emod_nonneg (great ns (at_ + 21)) (show (10 : Int) ^ gPow ns at_ ≠ 0 by omega)
  have m1 := Int.emod_lt_of_pos (great ns (at_ + 21)) g1
  have e : (greater ns at_ w h (sgn c)).m = great ns (at_ + 21) % 10 ^ gPow ns at_ := rfl
  refine ⟨⟨⟨c, rfl, h1, h2⟩, x0, ?_, y0, ?_, d1, d2, d3, m0, ?_⟩, ?_⟩
  · show great ns (at_ + 1) % (w + 1) ≤ w
    omega
  · show great ns (at_ + 11) % (h + 1) ≤ h
    omega
  · rw [e]
    omega
  · rw [e]
    omega
end Cu
set_option Elab.async false
set_option linter.all false
set_option maxRecDepth 100000
set_option maxHeartbeats 2000000
/-! A list of one's own, at D: what is said of it changes, all else stays. -/
namespace Cu
open PySem PySem.Spec PyProof.Rows L2

def SameX (D : Addr) (H H' : Hp) : Prop := ∀ b x, b ≠ D → H b = some x → H' b = some x
theorem SameX.of {D : Addr} {H H' : Hp} (e : Same H H') : SameX D H H' := fun b x _ h => e b x h
theorem SameX.refl (D : Addr) (H : Hp) : SameX D H H := fun _ _ _ h => h
theorem SameX.trans {D : Addr} {H H' H'' : Hp} (e : SameX D H H') (e2 : SameX D H' H'') : SameX D H H'' := fun b x n h => e2 b x n (e b x n h)
theorem SameX.fresh {D : Addr} {H H' : Hp} (h : H D = none) (e : SameX D H H') : Same H H' := fun b x q => e b x (ne_of_none q h) q
theorem SameX.put {D : Addr} {H : Hp} {o : HO} : SameX D H (L2.upd H D o) := fun b x n h => by
  rw [upd_ne n]
  exact h
def pOwn (D : Addr) (ds : List PyData) : Pd := ⟨fun H v => v = .ref D ∧ Dr H v (.list ds), fun e q => ⟨q.1, q.2.mono e⟩⟩
/-- a list that is not D -/
def offL (D : Addr) (ds : List PyData) : Pd := ⟨fun H v => ∃ l xs, v = .ref l ∧ l ≠ D ∧ H l = some (.lst xs) ∧ DrA H xs ds, fun e ⟨l, xs, h1, h2, h3, h4⟩ => ⟨l, xs, h1, h2, e _ _ h3, h4.mono e⟩⟩
/-- what a change of D leaves -/
def Rob (D : Addr) (P : Pd) : Prop := ∀ (H H' : Hp) (v : V), SameX D H H' → (∃ xs, H D = some (.lst xs)) → P.h H v → P.h H' v
mutual
theorem Dr.rob {H H' : Hp} {D : Addr} {xs : List V} (hl : H D = some (.lst xs)) (e : SameX D H H') : ∀ {v : V} {d : PyData}, flat d = true → Dr H v d → Dr H' v d
  | _, _, _, .non => .non
  | _, _, _, .bl b => .bl b
  | _, _, _, .int i => .int i
  | _, _, _, .str x => .str x
  | _, _, f, .tup (a := a) (xs := ys) h q => .tup (e _ _ (ne_of h hl (by intro z; cases z)) h) (DrA.rob hl e f q)
theorem DrA.rob {H H' : Hp} {D : Addr} {xs : List V} (hl : H D = some (.lst xs)) (e : SameX D H H') : ∀ {vs : List V} {ds : List PyData}, flatA ds = true → DrA H vs ds → DrA H' vs ds
  | _, _, _, .nil => .nil
  | _, _, f, .cons h q => .cons (Dr.rob hl e (Bool.and_eq_true_iff.mp f).1 h) (DrA.rob hl e (Bool.and_eq_true_iff.mp f).2 q)
end
theorem rob_flat {D : Addr} {d : PyData} (h : flat d = true) : Rob D (dat d) := fun H H' v e ⟨xs, hl⟩ q => Dr.rob hl e h q
theorem rob_off {D : Addr} {ds : List PyData} (h : flatA ds = true) : Rob D (offL D ds) := fun H H' v e ⟨xs, hl⟩ ⟨l, ys, h1, h2, h3, h4⟩ => ⟨l, ys, h1, h2, e _ _ h2 h3, DrA.rob hl e h h4⟩
theorem rob_tab {D C : Addr} {w h : Int} : Rob D (tab C w h) := fun H H' v e ⟨xs, hl⟩ ⟨l, dx, pk, h1, h2⟩ => ⟨l, dx, pk, h1, e _ _ (ne_of h2 hl (by intro z; cases z)) h2⟩

/-! ### environments, slot by slot -/
def RhoTo (T : Pd → Pd → Prop) : Rho → Rho → Prop
  | [], [] => True
  | _ :: ρ, none :: ρ' => RhoTo T ρ ρ'
  | some P :: ρ, some P' :: ρ' => T P P' ∧ RhoTo T ρ ρ'
  | _, _ => False
theorem StOk.to {H H' : Hp} {T : Pd → Pd → Prop} (hT : ∀ P P' v, T P P' → P.h H v → P'.h H' v) : ∀ {σ : L2.St} {ρ ρ' : Rho}, RhoTo T ρ ρ' → StOk H σ ρ → StOk H' σ ρ'
  | [], [], [], _, _ => trivial
  | none :: σ, none :: ρ, none :: ρ', w, h => StOk.to hT (σ := σ) (ρ := ρ) (ρ' := ρ') w h
  | some _ :: σ, none :: ρ, none :: ρ', w, h => StOk.to hT (σ := σ) (ρ := ρ) (ρ' := ρ') w h
  | some v :: σ, some P :: ρ, none :: ρ', w, h => StOk.to hT (σ := σ) (ρ := ρ) (ρ' := ρ') w h.2
  | some v :: σ, some P :: ρ, some P' :: ρ', w, h => ⟨hT _ _ _ w.1 h.1, StOk.to hT w.2 h.2⟩
  | none :: σ, some P :: ρ, _, _, h => h.elim
  | [], _ :: _, _, _, h => by simp [StOk] at h
  | _ :: _, [], _, _, h => by simp [StOk] at h
  | [], [], _ :: _, w, _ => by simp [RhoTo] at w
  | _ :: _, none :: _, some _ :: _, w, _ => by simp [RhoTo] at w
  | _ :: _, _ :: _, [], w, _ => by simp [RhoTo] at w
/-- D's list is changed -/
def Stp (D : Addr) (ds ds' : List PyData) (P P' : Pd) : Prop := (P' = P ∧ Rob D P) ∨ (P = pOwn D ds ∧ P' = pOwn D ds')
theorem Stp.same {D : Addr} {ds ds' : List PyData} {P : Pd} (h : Rob D P) : Stp D ds ds' P P := .inl ⟨rfl, h⟩
theorem Stp.own {D : Addr} {ds ds' : List PyData} : Stp D ds ds' (pOwn D ds) (pOwn D ds') := .inr ⟨rfl, rfl⟩
theorem Stp.go {D : Addr} {ds ds' : List PyData} {H H' : Hp} {xs : List V} (hl : H D = some (.lst xs)) (e : SameX D H H') (q : Dr H' (.ref D) (.list ds')) (P P' : Pd) (v : V) : Stp D ds ds' P P' → P.h H v → P'.h H' v := by
  rintro (⟨rfl, r⟩ | ⟨rfl, rfl⟩) h
  · exact r _ _ _ e ⟨xs, hl⟩ h
  · obtain ⟨h1, _⟩ := h
    subst h1
    exact ⟨rfl, q⟩
/-- D is new -/
def Fs (D : Addr) (P P' : Pd) : Prop := ∀ (H H' : Hp) (v : V), H D = none → Same H H' → P.h H v → P'.h H' v
theorem Fs.same {D : Addr} {P : Pd} : Fs D P P := fun _ _ _ _ e q => P.up e q
theorem Fs.off {D : Addr} {ds : List PyData} : Fs D (pL ds) (offL D ds) := fun H H' v h e q => by
  obtain ⟨l, xs, rfl, hl, r⟩ := Dr.ofL q
  exact ⟨l, xs, rfl, ne_of_none hl h, e _ _ hl, r.mono e⟩
/-- a weaker word -/
def Wk (P P' : Pd) : Prop := ∀ (H : Hp) (v : V), P.h H v → P'.h H v
theorem Wk.same {P : Pd} : Wk P P := fun _ _ q => q
theorem Wk.own {D : Addr} {ds : List PyData} : Wk (pOwn D ds) (pL ds) := fun _ _ q => q.2
theorem Wk.off {D : Addr} {ds : List PyData} : Wk (offL D ds) (pL ds) := fun _ _ ⟨l, xs, h1, _, h3, h4⟩ => by
  subst h1
  exact .lst h3 h4

/-! ### statements -/
def tO (D : Addr) (ρ : Rho) : Out → TS
  | .nx ρ' => fun E σ H => StOk H σ ρ ∧ ∀ σ' H', SameX D H H' → StOk H' σ' ρ' → E.nx σ' H'
  | .rt P => fun E σ H => StOk H σ ρ ∧ ∀ v H', SameX D H H' → P.h H' v → E.rt v H'
abbrev So (X : Cx) (D : Addr) (st : Stmt) (ρ : Rho) (o : Out) : Prop := PS X st (tO D ρ o)
abbrev Sos (X : Cx) (D : Addr) (sts : List Stmt) (ρ : Rho) (o : Out) : Prop := PSs X sts (tO D ρ o)
structure YieldsX (D : Addr) (J : It) (G : Hp) (ds : List PyData) : Prop where
  go : ∀ (i : Nat) (H : Hp), SameX D G H → i < ds.length → J.go i H
  yld : ∀ (i : Nat) (H : Hp) (x : V) (H' : Hp), SameX D G H → i < ds.length → J.yld i H x H' → Same H H' ∧ ∃ d, ds[i]? = some d ∧ Dr H' x d
  stop : ∀ (H : Hp), SameX D G H → J.stop ds.length H
def tEvIx (D : Addr) (ρ : Rho) (ds : List PyData) : TI := fun σ H R => StOk H σ ρ ∧ ∀ J H', Same H H' → YieldsX D J H' ds → R J H'
abbrev EvIx (X : Cx) (D : Addr) (tg e : Expr) (ρ : Rho) (ds : List PyData) : Prop := PI X tg e (tEvIx D ρ ds)
section
variable {X : Cx} {D : Addr} {e a b c tg : Expr} {es : List Expr} {ρ ρ' ρ1 : Rho} {P P1 P2 P3 : Pd} {pos p p2 : Pos} {x : Str} {ds : List PyData} {o : Out} {stm : Stmt} {sts rest : List Stmt}
theorem tO_st {E : Ends} {σ : L2.St} {H : Hp} : ∀ {o : Out}, tO D ρ o E σ H → StOk H σ ρ
  | .nx _, h => h.1
  | .rt _, h => h.1
theorem tO_go {E : Ends} {σ σ' : L2.St} {H H' : Hp} (e : SameX D H H') (st : StOk H' σ' ρ') : ∀ {o : Out}, tO D ρ o E σ H → tO D ρ' o E σ' H'
  | .nx _, h => ⟨st, fun σ'' H'' e' q => h.2 σ'' H'' (e.trans e') q⟩
  | .rt _, h => ⟨st, fun v H'' e' q => h.2 v H'' (e.trans e') q⟩
theorem tO_tS {E : Ends} {σ : L2.St} {H : Hp} : ∀ {o : Out}, tO D ρ o E σ H → tS ρ o E σ H
  | .nx _, h => ⟨h.1, fun σ'' H'' e' q => h.2 σ'' H'' (.of e') q⟩
  | .rt _, h => ⟨h.1, fun v H'' e' q => h.2 v H'' (.of e') q⟩
theorem so_of (h : Sv X stm ρ o) : So X D stm ρ o := ps_to h fun E σ H q => tO_tS q
theorem sos_of (h : Svs X sts ρ o) : Sos X D sts ρ o := pss_to h fun E σ H q => tO_tS q
theorem sos_nil : Sos X D [] ρ (.nx ρ) := pss_to pss_nil fun E σ H ⟨st, k⟩ => k σ H (.refl D H) st
theorem sos_cons (h1 : So X D stm ρ (.nx ρ1)) (h2 : Sos X D rest ρ1 o) : Sos X D (stm :: rest) ρ o :=
  pss_to (pss_cons h1 h2) fun E σ H q => ⟨tO_st q, fun σ' H' e st' => tO_go e st' q⟩
theorem sos_one (h1 : So X D stm ρ o) : Sos X D [stm] ρ o := pss_one h1
theorem sos_wk (h : Sos X D sts ρ' o) (w : RhoTo Wk ρ ρ') : Sos X D sts ρ o := pss_to h fun E σ H q => tO_go (.refl D H) (StOk.to (fun P P' v z => z H v) w (tO_st q)) q
theorem sos_weak_end {ρ2 : Rho} (h : Sos X D sts ρ (.nx ρ')) (w : Weak ρ' ρ2) : Sos X D sts ρ (.nx ρ2) := pss_to h fun E σ H q => ⟨q.1, fun σ' H' e st => q.2 σ' H' e (st.weak w)⟩
theorem so_if {t : Bool} {f g : List Stmt} (hc : EvT X c ρ t) (h1 : t = true → Sos X D f ρ o) (h2 : t = false → Sos X D g ρ o) : So X D (.If c f g pos) ρ o := by
  cases t with
  | true => exact ps_to (ps_if hc (h1 rfl) pss_never) fun E σ H q => ⟨tO_st q, fun H' e => iteT (tO_go (.of e) ((tO_st q).mono e) q)⟩
  | false => exact ps_to (ps_if hc pss_never (h2 rfl)) fun E σ H q => ⟨tO_st q, fun H' e => iteF (tO_go (.of e) ((tO_st q).mono e) q)⟩
theorem so_for {ds : List PyData} (hp : PassesOwn (model X.prog X.w) X.A X.env X.xe) (hi : EvIx X D tg e ρ ds) (ρs ρt : Nat → Rho) (is : Nat → List Nat) (hw : Weak ρ (ρs 0))
    (hg : ∀ i d, ds[i]? = some d → Tg X tg (dat d) (ρs i) (ρt i) (is i)) (hb : ∀ i d, ds[i]? = some d → Sos X D sts (ρt i) (.nx (ρs (i + 1)))) (hc : X.calm = true := by rfl) (hs : ∀ x, foldedSetIterable e X.env x = pure x := by intro _; rfl) :
    So X D (.For tg e sts [] pos) ρ (.nx (ρs ds.length)) := by
  have hG : PG X tg (fun v σ H Q => ∃ i d, ds[i]? = some d ∧ gTo (dat d) (ρs i) (ρt i) (is i) v σ H Q) := ⟨fun pins s σ H v u Q I r q => by
    obtain ⟨i, d, hd, q⟩ := q
    exact (hg i d hd).run pins s σ H v u Q I r q⟩
  have hB : PSs X sts (fun E σ H => ∃ i d, ds[i]? = some d ∧ tO D (ρt i) (.nx (ρs (i + 1))) E σ H) := ⟨fun pins s σ H E I q => by
    obtain ⟨i, d, hd, q⟩ := q
    exact (hb i d hd).run pins s σ H E I q⟩
  refine ps_to (ps_for hp hc hi hG hB hs) fun E σ H ⟨st, k⟩ => ⟨st, fun J H1 e1 y => ?_⟩
  refine ⟨fun i m σ' H' => i + m = ds.length ∧ SameX D H1 H' ∧ StOk H' σ' (ρs i), ⟨ds.length, Nat.zero_add _, .refl D H1, (st.mono e1).weak hw⟩, ?_⟩
  rintro i m σ' H' ⟨hi, e, st'⟩
  by_cases h0 : i < ds.length
  · refine .inr ⟨y.go i H' e h0, fun σ3 H3 => SameX D H1 H3 ∧ StOk H3 σ3 (ρs (i + 1)), fun σ3 H3 q => ⟨m - 1, by omega, by omega, q.1, q.2⟩, fun v H2 hy => ?_⟩
    obtain ⟨e2, d, hd, r⟩ := y.yld i H' v H2 e h0 hy
    exact ⟨i, d, hd, r, st'.mono e2, fun σ3 st3 _ => ⟨i, d, hd, st3, fun σ4 H4 e4 st4 => ⟨e.trans ((SameX.of e2).trans e4), st4⟩⟩⟩
  · have hi' : i = ds.length := by omega
    subst hi'
    exact .inl ⟨y.stop H' e, k σ' H' ((SameX.of e1).trans e) st'⟩
theorem so_while (hp : PassesOwn (model X.prog X.w) X.A X.env X.xe) (ρs : Nat → Rho) (n : Nat) (hw : Weak ρ (ρs 0)) (ht : ∀ i, i < n → EvT X c (ρs i) true) (hn : EvT X c (ρs n) false) (hb : ∀ i, i < n → Sos X D sts (ρs i) (.nx (ρs (i + 1)))) :
    So X D (.While c sts [] pos) ρ (.nx (ρs n)) := by
  have hc : PT X c (fun σ H Q => ∃ i, (i < n ∧ tEvT (ρs i) true σ H Q) ∨ (i = n ∧ tEvT (ρs i) false σ H Q)) := ⟨fun pins s σ H Q I q => by
    obtain ⟨i, ⟨hi, q⟩ | ⟨rfl, q⟩⟩ := q
    · exact (ht i hi).run pins s σ H Q I q
    · exact hn.run pins s σ H Q I q⟩
  have hB : PSs X sts (fun E σ H => ∃ i, i < n ∧ tO D (ρs i) (.nx (ρs (i + 1))) E σ H) := ⟨fun pins s σ H E I q => by
    obtain ⟨i, hi, q⟩ := q
    exact (hb i hi).run pins s σ H E I q⟩
  refine ps_to (ps_while hp hc hB) fun E σ H ⟨st, k⟩ => ?_
  refine ⟨fun m σ' H' => ∃ i, i + m = n ∧ SameX D H H' ∧ StOk H' σ' (ρs i), ⟨n, 0, Nat.zero_add n, .refl D H, st.weak hw⟩, ?_⟩
  rintro m σ' H' ⟨i, hi, e, st'⟩
  by_cases h0 : m = 0
  · subst h0
    have hi' : i = n := by omega
    subst hi'
    exact ⟨i, .inr ⟨rfl, st', fun H2 e2 => iteF (k σ' H2 (e.trans (.of e2)) (st'.mono e2))⟩⟩
  · refine ⟨i, .inl ⟨by omega, st', fun H2 e2 => iteT ⟨fun σ3 H3 => ∃ m', m' < m ∧ ∃ i, i + m' = n ∧ SameX D H H3 ∧ StOk H3 σ3 (ρs i), fun _ _ z => z, i, by omega, st'.mono e2, fun σ3 H3 e3 st3 => ⟨m - 1, by omega, i + 1, by omega, e.trans ((SameX.of e2).trans e3), st3⟩⟩⟩⟩
/-- less is said of a value -/
theorem ev_wk (h : Ev X e ρ P) (w : Wk P P1) : Ev X e ρ P1 := pe_to h fun σ H Q ⟨st, k⟩ => ⟨st, fun v H1 e1 q => k v H1 e1 (w H1 v q)⟩
/-! ### sources -/
theorem YieldsX.rng {G : Hp} {lo : Int} {n : Nat} : YieldsX D (Itr lo n) G (rng lo n) where
  go := fun i H _ hi => (yields_rng (G := H) (lo := lo) (n := n)).go i H (Same.refl H) hi
  yld := fun i H z H' _ hi h => (yields_rng (G := H) (lo := lo) (n := n)).yld i H z H' (Same.refl H) hi h
  stop := fun H _ => (yields_rng (G := H) (lo := lo) (n := n)).stop H (Same.refl H)
theorem YieldsX.ints {G : Hp} {l : Addr} {K : PySem.W.Frag} {ns : List Int} (hl : G l = some (.lst (ns.map V.int))) (hn : l ≠ D) : YieldsX D (Itl K l) G (ns.map PyData.int) where
  go := fun i H e hi => (yields_list (K := K) (e _ _ hn hl) (DrA.ofInts ns)).go i H (Same.refl H) hi
  yld := fun i H z H' e hi h => (yields_list (K := K) (e _ _ hn hl) (DrA.ofInts ns)).yld i H z H' (Same.refl H) hi h
  stop := fun H e => (yields_list (K := K) (e _ _ hn hl) (DrA.ofInts ns)).stop H (Same.refl H)
theorem evix_rng1 {n : Int} (hm : X.mg "range" = none) (h : Ev X a ρ (pI n)) (hn : 0 ≤ n ∧ n < 2 ^ 62) (hg : Gl X "range" := by rfl) (hs : starEach [a] X.env = [(false, eval a X.env)] := by rfl) :
    EvIx X D tg (.Call (.Name "range" p) [a] [] pos) ρ (rng 0 n.toNat) :=
  pi_to (pi_range1 hg hm (eva_cons h eva_nil hs) hs) fun σ H R ⟨st, k⟩ => ⟨st, fun vs H1 e1 q => ⟨n, q.int1, by omega, hn.2, k _ H1 e1 .rng⟩⟩
theorem evix_rng2 {lo n : Int} (hm : X.mg "range" = none) (h : Ev X a ρ (pI lo)) (h2 : Ev X b ρ (pI n)) (hn : -(2 ^ 62) ≤ lo ∧ lo < 2 ^ 62 ∧ -(2 ^ 62) ≤ n ∧ n < 2 ^ 62) (hg : Gl X "range" := by rfl)
    (hs : starEach [a, b] X.env = [(false, eval a X.env), (false, eval b X.env)] := by rfl) (hs2 : starEach [b] X.env = [(false, eval b X.env)] := by rfl) :
    EvIx X D tg (.Call (.Name "range" p) [a, b] [] pos) ρ (rng lo (n - lo).toNat) :=
  pi_to (pi_range2 hg hm (eva_cons h (eva_cons h2 eva_nil hs2) (by rw [hs, hs2])) hs hs2) fun σ H R ⟨st, k⟩ => ⟨st, fun vs H1 e1 q => ⟨lo, n, q.int2, hn, k _ H1 e1 .rng⟩⟩
theorem evix_off {ns : List Int} (h : Ev X e ρ (offL D (ns.map PyData.int))) : EvIx X D tg e ρ (ns.map PyData.int) := pi_to (pi_list h) fun σ H R ⟨st, k⟩ => ⟨st, fun v H1 e1 q => by
  obtain ⟨l, xs, rfl, hn, hl, q2⟩ := q
  rw [q2.ints] at hl
  exact ⟨l, rfl, ⟨_, SqL.of hl⟩, k _ H1 e1 (.ints hl hn)⟩⟩
/-- a new list of ints -/
def tNewL (ρ : Rho) (ds : List PyData) : TE := fun σ H Q => StOk H σ ρ ∧ ∀ l H', H l = none → Same H H' → Dr H' (.ref l) (.list ds) → Q (.ref l) H'
theorem evix_new {ns : List Int} (h : PE X e (tNewL ρ (ns.map PyData.int))) (j : Nat) {es : List PyData} (hj : rat ρ j = some (pOwn D es)) : EvIx X D tg e ρ (ns.map PyData.int) := pi_to (pi_list h) fun σ H R ⟨st, k⟩ => ⟨st, fun l H1 hn e1 q => by
  obtain ⟨l', xs, e2, hl, q2⟩ := q.ofL
  cases e2
  rw [q2.ints] at hl
  obtain ⟨v, _, rfl, hD⟩ := st.get hj
  obtain ⟨D', ys, e3, hD, _⟩ := hD.ofL
  cases e3
  exact ⟨l, rfl, ⟨_, SqL.of hl⟩, k _ H1 e1 (.ints hl fun z => by
    subst z
    rw [hD] at hn
    cases hn)⟩⟩
/-! ### the list changes -/
/-- xs.append(e) -/
theorem so_app {d : PyData} {apos : Pos} (ho : Ev X a ρ (pOwn D ds)) (he : Ev X e ρ (dat d)) (hd : flat d = true) (hf : flatA ds = true) (hz : ds.length ≤ 1000) (hq : RhoTo (Stp D ds (ds ++ [d])) ρ ρ')
    (hbase : attributeBase a "append" X.env (eval a X.env) = eval a X.env := by rfl)
    (hfew : ((backTo pos (starEach [e] X.env)).all (fun x => !x.1) && (backToKw pos (keywordEach [] X.env)).all (fun x => x.1.isSome)
      && decide (([e] : List Expr).length + ([] : List Keyword).length + (if ([] : List Keyword).isEmpty then 0 else 1) < 30)) = true := by rfl)
    (hline : (apos.endLine == pos.line) = true := by rfl) (hs : starEach [e] X.env = (false, eval e X.env) :: starEach [] X.env := by rfl) (hpl : (backTo pos (starEach [] X.env)).any (·.1) = false := by rfl)
    (hsw : swapsWith (.Call (.Attribute a "append" apos) [e] [] pos) none p.line X.env = pure false := by rfl) :
    So X D (.Expr (.Call (.Attribute a "append" apos) [e] [] pos) p) ρ (.nx ρ') :=
  ps_to (ps_expr (pe_bm PySem.F.plainAttrs_list PySem.F.slot_list_append PySem.F.type_list_append mt_append ho (eva_cons he eva_nil hs) hbase hfew hline hs hpl) hsw) fun E σ H ⟨st, k⟩ => ⟨st, fun v H1 e1 q => by
    obtain ⟨rfl, q⟩ := q
    obtain ⟨D', xs, e2, hl, r⟩ := q.ofL
    cases e2
    refine ⟨.inl ⟨rfl, _, SqL.of hl⟩, st.mono e1, fun vs H2 e2 q2 => ?_⟩
    obtain ⟨y, rfl, q3⟩ := ps1 q2
    have hl2 := e2 _ _ hl
    refine ⟨D, xs, y, rfl, rfl, hl2, by rw [r.length]; exact small1000 hz, k _ _ (((SameX.of e1).trans (.of e2)).trans .put) (StOk.to (fun P P' v' => Stp.go hl2 .put (.lst upd_same ?_) P P' v') hq ((st.mono e1).mono e2))⟩
    exact ((r.mono e2).upd hl2 hf).append (.one (Dr.upd hl2 hd q3))⟩
theorem ixN_at {n j : Nat} (hj : j < n) : L2.ixN n (j : Int) = some j := by
  unfold L2.ixN
  rw [if_pos (by omega), if_pos (by omega)]
  simp
theorem setD {H : Hp} {v : V} {d : PyData} (h : Dr H v d) : ∀ {vs : List V} {ds : List PyData} (j : Nat), DrA H vs ds → DrA H (vs.set j v) (ds.set j d)
  | _, _, _, .nil => .nil
  | _, _, 0, .cons _ q => .cons h q
  | _, _, j + 1, .cons h' q => .cons h' (setD h j q)
theorem flatA_set {d : PyData} (h : flat d = true) : ∀ (ds : List PyData) (j : Nat), flatA ds = true → flatA (ds.set j d) = true
  | [], _, f => f
  | _ :: ds, 0, f => by
    show (flat d && flatA ds) = true
    rw [h, (Bool.and_eq_true_iff.mp f).2]
    rfl
  | e :: ds, j + 1, f => by
    show (flat e && flatA (ds.set j d)) = true
    rw [flatA_set h ds j (Bool.and_eq_true_iff.mp f).2, (Bool.and_eq_true_iff.mp f).1]
    rfl
/-- xs[j] = e -/
theorem so_put {d : PyData} {j : Nat} (he : Ev X e ρ (dat d)) (ho : Ev X a ρ (pOwn D ds)) (hi : Ev X b ρ (pI (j : Nat))) (hj : j < ds.length) (hd : flat d = true) (hf : flatA ds = true) (hq : RhoTo (Stp D ds (ds.set j d)) ρ ρ')
    (ha : ∀ v, assign (.Subscript a b p) X.env v = (do
      let ov ← holding [v] (eval a X.env)
      let iv ← holding [v, ov] (eval b X.env)
      standAt p
      holding [v, ov, iv] (setItem ov iv v)
      release [v, ov, iv] []) := by intro _; rfl)
    (hs : swapsWithSole [.Subscript a b p] e pos.line X.env = pure false := by rfl) (hw : swappedStores [.Subscript a b p] e X.env = pure none := by rfl)
    (h1 : (assignEach [.Subscript a b p] X.env).map (·.2) = [assign (.Subscript a b p) X.env] := by rfl) : So X D (.Assign [.Subscript a b p] e pos) ρ (.nx ρ') :=
  ps_to (ps_asg he (pg_sub ho hi set_list ha) hs hw h1) fun E σ H ⟨st, k⟩ => ⟨st, fun v H1 e1 q => ⟨st.mono e1, fun ov H2 e2 q2 => ⟨(st.mono e1).mono e2, fun iv H3 e3 q3 => by
    obtain ⟨rfl, q2⟩ := q2
    obtain rfl := Dr.ofI q3
    obtain ⟨D', xs, e4, hl, r⟩ := (q2.mono e3).ofL
    cases e4
    refine ⟨D, xs, _, j, rfl, rfl, hl, ixN_at (by rw [r.length]; exact hj), k _ _ ((SameX.of (e1.trans (e2.trans e3))).trans .put) (StOk.to (fun P P' v' => Stp.go hl .put (.lst upd_same ?_) P P' v') hq (((st.mono e1).mono e2).mono e3))⟩
    exact (setD (q.mono (e2.trans e3)) j r).upd hl (flatA_set hd ds j hf)⟩⟩⟩
/-! ### the list is new -/
def tFr (ρ : Rho) (P : Addr → Pd) : TS := fun E σ H => StOk H σ ρ ∧ ∀ D v H', H D = none → Same H H' → (P D).h H' v → E.rt v H'
theorem pss_D {ρ' : Addr → Rho} {Q : Addr → Pd} (h : ∀ D, Sos X D rest (ρ' D) (.rt (Q D))) : PSs X rest (fun E σ H => ∃ D, tO D (ρ' D) (.rt (Q D)) E σ H) := ⟨fun pins s σ H E I q => by
  obtain ⟨D, q⟩ := q
  exact (h D).run pins s σ H E I q⟩
theorem ps_newL (i : Nat) {py lp : Pos} {ρ0 ρ' : Addr → Rho} {Q : Addr → Pd} (hN : X.N.Nodup) (h : ∀ D, Sos X D rest (ρ' D) (.rt (Q D))) (hf : ∀ D, RhoTo (Fs D) ρ (ρ0 D)) (hr : ∀ D, rset (ρ0 D) i (some (pOwn D [])) = ρ' D := by intro _; rfl) (hi : X.N[i]? = some x := by rfl)
    (hx : Loc X.env.scope x := by first | exact Or.inl rfl | exact Or.inr rfl) (hs : swapsWith (.List [] lp) (some (.Name x py)) pos.line X.env = pure false := by rfl) (hfn : X.fn x = true ∨ X.env.scope.names.lookup x = some .local := by first | exact .inl rfl | exact .inr rfl) :
    PSs X (.Assign [.Name x py] (.List [] lp) pos :: rest) (tFr ρ Q) :=
  pss_to (pss_cons (ps_set hN hi hx (pe_lst pa_nil) hs hfn) (pss_D h)) fun E σ H ⟨st, k⟩ => ⟨Nat.zero_le _, fun D hD => ⟨D, by
    rw [← hr D]
    exact (StOk.to (fun P P' v z => z H _ v hD (same_new hD)) (hf D) st).set (P := pOwn D []) ⟨rfl, .lst upd_same .nil⟩, fun v H' e q => k D v H' hD ((SameX.put.trans e).fresh hD) q⟩⟩
end
end Cu
set_option Elab.async false
set_option linter.all false
set_option maxRecDepth 100000
set_option maxHeartbeats 2000000
set_option exponentiation.threshold 2000
namespace Cu
open PySem PySem.Spec PyProof.Rows L2

/-! ### a def that hands out a new list -/
def spF (Ps : List Pd) (ds : List PyData) : Sp := fun vs H Q _ => PsOk H vs Ps ∧ ∀ a H', H a = none → Same H H' → Dr H' (.ref a) (.list ds) → Q (.ref a) H'
structure DfnF (P : Program) (w : World) (K : PySem.W.Frag) (mg : Str → Option Value) (base : Heap) (x : Str) (k : Nat) (Ps : List Pd) (ds : List PyData) : Prop where
  ex : ∃ (f : Addr) (fd : FuncData) (ps : List Str), mg x = some (.ref f) ∧ PySem.W.keepIn K (.ref f) = true ∧ Binds K fd ps [] ∧ FnOk P w K mg base CX0 k f fd ps (spF Ps ds)
section
variable {P : Program} {w : World} {K : PySem.W.Frag} {mg : Str → Option Value} {base : Heap}
theorem dfn_ofF {x : Str} {st : Stmt} {N ps : List Str} {k : Nat} {Ps : List Pd} {ds : List PyData} (h : Has K mg x st) (S : FnScope N ps (defScope st)) (hl : Ps.length = ps.length) (hb : Bnd x st ps)
    (body : ∀ (f : Addr) (cdv : Value) (A : Around) (outer : List Env) (s : Shared) (H : Hp) (E : XK), Room k (A.deeper (envOfC x (defScope st) s.heap.objs.size f cdv)) →
      PSs (CxC P w K mg base N x (defScope st) f cdv A outer s H E) (defBody st) (tFr (rho0 N Ps) fun D => pOwn D ds)) : DfnF P w K mg base x (k + 1) Ps ds := by
  obtain ⟨f, fd, hm, F⟩ := h
  refine ⟨f, fd, ps, hm, F.kp, F.bindsN hb, F.ok S (fun vs H Q E q => q.1.length.trans hl) fun cdv A outer s H vs Q E hr q => ⟨_, (body f cdv A outer s H E hr).nox, ?_⟩⟩
  refine ⟨?_, fun D v H' hD e p => ?_⟩
  · have e := q.1.length
    unfold L2.start rho0
    rw [e]
    exact stok_start _ q.1
  · obtain ⟨rfl, p⟩ := p
    exact q.2 D H' hD e p
end
section
variable {X : Cx} {e : Expr} {es : List Expr} {ρ : Rho} {Ps : List Pd} {ds : List PyData} {x : Str} {p pos : Pos} {k : Nat}
theorem ev_callF (F : DfnF X.prog X.w X.K X.mg X.base x k Ps ds) (hr : Room k X.A) (ha : EvA X (e :: es) ρ Ps) (hg : Gl X x := by rfl) (hdb : (x == ("__debug__" : Str)) = false := by decide)
    (he : starEach (e :: es) X.env = (false, eval e X.env) :: starEach es X.env := by rfl) (hpl : (backTo pos (starEach es X.env)).any (·.1) = false := by rfl) : PE X (.Call (.Name x p) (e :: es) [] pos) (tNewL ρ ds) := by
  obtain ⟨f, fd, ps, hm, hk, hb, F⟩ := F.ex
  refine pe_to (pe_call (E := E0) F hr hg hm hk hb .nil pass0 ha hdb he hpl) fun σ H Q ⟨st, k⟩ => ⟨st, fun vs H1 e1 q => ?_⟩
  show spF Ps ds (vs ++ []) H1 Q E0
  rw [List.append_nil]
  refine ⟨q, fun a H' ha e2 p => k a H' ?_ (e1.trans e2) p⟩
  cases h : H a with
  | none => rfl
  | some o =>
    rw [e1 _ _ h] at ha
    cases ha
end
/-! ### the script's list -/
theorem sql_mono {K : PySem.W.Frag} {H H' : Hp} {a : Addr} {xs : List V} (h : SqL K H a xs) (e : Same H H') : SqL K H' a xs :=
  h.elim (fun h => .inl (h.elim (fun h => .inl (e _ _ h)) fun ⟨o, h⟩ => .inr ⟨o, e _ _ h⟩)) fun h => .inr h
def scr (K : PySem.W.Frag) (ns : List Int) : Pd := ⟨fun H v => ∃ a, v = .ref a ∧ SqL K H a (ns.map V.int), fun e ⟨a, h1, h2⟩ => ⟨a, h1, sql_mono h2 e⟩⟩
theorem ev_scrTo {X : Cx} {a hi : Expr} {ρ : Rho} {ns : List Int} {n : Nat} {p2 pos : Pos} (ha : Ev X a ρ (scr X.K ns)) (hh : Ev X hi ρ (pI (n : Int))) : Ev X (.Subscript a (.Slice none (some hi) none p2) pos) ρ (pL ((ns.take n).map PyData.int)) :=
  pe_to (pe_slice sl_list ha po_none (evo_some hh)) fun σ H Q ⟨st, k⟩ => ⟨st, fun v H1 e1 q => ⟨st.mono e1, fun H2 e2 => by
    obtain ⟨l, rfl, hl'⟩ := q
    refine ⟨l, _, rfl, sql_mono hl' e2, fun m hm => k _ _ (e1.trans (e2.trans (same_new hm))) (.lst upd_same ?_)⟩
    have h := (DrA.ofInts (H := L2.upd H2 m (.lst (cutV (ns.map V.int) none (some (n : Int))))) ns).cut none (some (n : Int))
    rw [cutD_to, ← List.map_take] at h
    exact h⟩⟩
/-! ### the numbers -/
def rMix (c : Int) : Nat → Int
  | 0 => ((c.natAbs : Int) * 48271 + 69621) % 2147483647
  | k + 1 => (rMix c k * 16807 + 271 * ((k : Nat) + 3)) % 2147483629
def rRest (c : Int) : Nat → Int
  | 0 => (c.natAbs : Int)
  | k + 1 => if (10 : Int) ^ 18 ≤ (c.natAbs : Int) then rRest c k / 1009 else rRest c k
def rItem (c : Int) (k : Nat) : Int := if (10 : Int) ^ 18 ≤ (c.natAbs : Int) then rRest c k % 1009 else rMix c (k + 1) / 7 % 1009
def rowF (c : Int) (n : Nat) : List Int := (List.range n).map (rItem c)
theorem rowF_len (c : Int) (n : Nat) : (rowF c n).length = n := by simp [rowF]
theorem rowF_succ (c : Int) (n : Nat) : rowF c (n + 1) = rowF c n ++ [rItem c n] := by
  unfold rowF
  rw [List.range_succ, List.map_append]
  rfl
theorem rItem_bd (c : Int) (k : Nat) : 0 ≤ rItem c k ∧ rItem c k ≤ 1008 := by
  unfold rItem
  by_cases h : (10 : Int) ^ 18 ≤ (c.natAbs : Int)
  · rw [if_pos h]
    omega
  · rw [if_neg h]
    omega
theorem flat_int (ns : List Int) : flatA (ns.map PyData.int) = true := flatA_all fun d hd => by
  obtain ⟨n, _, rfl⟩ := List.mem_map.mp hd
  rfl
section
variable {P : Program} {w : World} {K : PySem.W.Frag} {mg : Str → Option Value} {base : Heap} {C : Addr} {W Hh : Int}
theorem df_row (T : Txt K mg C) (c : Int) (n : Nat) (hn : n ≤ 300) : DfnF P w K mg base "_law_row" 1 [pI c, pI (n : Nat)] ((rowF c n).map PyData.int) := by
  refine dfn_ofF T.law_row scLawRow rfl (fun _ _ _ _ _ _ us hl => match us, hl with | [_, _], _ => rfl) fun f cdv A outer s' H E hr => ?_
  refine ps_newL (ρ0 := fun _ => rho0 nLawRow [pI c, pI (n : Nat)]) (ρ' := fun D => [some (pI c), some (pI (n : Nat)), some (pOwn D []), none, none, none]) 2 scLawRow.nd (fun D => ?_) (fun D => ⟨.same, .same, trivial⟩)
  refine sos_cons (so_of (sv_set 3 scLawRow.nd (ev_abs T.zAbs (ev_var 0)))) (sos_cons (so_of (sv_set 4 scLawRow.nd (ev_mod (ev_toint T.zInt (ev_add (ev_mul (ev_var 3) ev_int (.inr (by decide))) ev_int)) ev_int (by decide))))
    (sos_cons (so_for (ds := rng 0 n) PassesOwn.never (evix_rng1 (n := ((n : Nat) : Int)) T.zRange (ev_var 1) (by omega))
      (fun i => [some (pI c), some (pI (n : Nat)), some (pOwn D ((rowF c i).map PyData.int)), some (pI (rRest c i)), some (pI (rMix c i)), none])
      (fun i => [some (pI c), some (pI (n : Nat)), some (pOwn D ((rowF c i).map PyData.int)), some (pI (rRest c i)), some (pI (rMix c i)), some (pI (i : Nat))]) (fun _ => [5]) ⟨rfl, rfl, rfl, rfl, rfl, trivial⟩ (fun i d hd => ?_) (fun i d hd => ?_))
    (sos_one (so_of (sv_ret (ev_cast (ev_var 2) ?_))))))
  · obtain ⟨hi, rfl⟩ := rng_at hd
    rw [Int.zero_add]
    exact tg_name 5 scLawRow.nd
  · obtain ⟨hi, rfl⟩ := rng_at hd
    have er : ∀ {b : Bool}, (rowF c i).map PyData.int ++ [.int (rItem c i)] = (rowF c (i + 1)).map PyData.int := by
      intro _
      rw [rowF_succ, List.map_append]
      rfl
    have zr : ((rowF c i).map PyData.int).length ≤ 1000 := by rw [List.length_map, rowF_len]; omega
    refine sos_weak_end (ρ' := [some (pI c), some (pI (n : Nat)), some (pOwn D ((rowF c (i + 1)).map PyData.int)), some (pI (rRest c (i + 1))), some (pI (rMix c (i + 1))), some (pI (i : Nat))]) (sos_cons (so_of (sv_set 4 scLawRow.nd (ev_mod (ev_toint T.zInt (ev_add (ev_mul (ev_var 4) ev_int (.inr (by decide))) (ev_mul ev_int (ev_add (ev_var 5) ev_int) (.inl (by decide))))) ev_int (by decide))))
      (sos_one (so_if (evt_ge (ev_abs T.zAbs (ev_var 0)) (ev_cast (ev_pow ev_int ev_int (by exact ⟨by decide, by decide, by decide⟩)) rfl)) (fun h => ?_) fun h => ?_))) ⟨rfl, rfl, rfl, rfl, rfl, trivial⟩
    · have h' : (10 : Int) ^ 18 ≤ (c.natAbs : Int) := dTrue h
      have e1 : rItem c i = rRest c i % 1009 := if_pos h'
      have e2 : rRest c (i + 1) = rRest c i / 1009 := if_pos h'
      rw [← er (b := true), e1, e2]
      exact sos_cons (so_app (ρ' := [some (pI c), some (pI (n : Nat)), some (pOwn D ((rowF c i).map PyData.int ++ [.int (rRest c i % 1009)])), some (pI (rRest c i)), some (pI (rMix c (i + 1))), some (pI (i : Nat))])
        (ev_var 2) (ev_mod (ev_toint T.zInt (ev_var 3)) ev_int (by decide)) rfl (flat_int _) zr ⟨.same (rob_flat rfl), .same (rob_flat rfl), .own, .same (rob_flat rfl), .same (rob_flat rfl), .same (rob_flat rfl), trivial⟩)
        (sos_one (so_of (sv_set 3 scLawRow.nd (ev_div (ev_var 3) ev_int ⟨by decide, by decide⟩))))
    · have h' : ¬ (10 : Int) ^ 18 ≤ (c.natAbs : Int) := dFalse h
      have e1 : rItem c i = rMix c (i + 1) / 7 % 1009 := if_neg h'
      have e2 : rRest c (i + 1) = rRest c i := if_neg h'
      rw [← er (b := true), e1, e2]
      exact sos_one (so_app (ev_var 2) (ev_mod (ev_toint T.zInt (ev_div (ev_var 4) ev_int ⟨by decide, by decide⟩)) ev_int (by decide)) rfl (flat_int _) zr ⟨.same (rob_flat rfl), .same (rob_flat rfl), .own, .same (rob_flat rfl), .same (rob_flat rfl), .same (rob_flat rfl), trivial⟩)
  · rw [rng_len]
end
end Cu
set_option Elab.async false
set_option linter.all false
set_option maxRecDepth 100000
set_option maxHeartbeats 2000000
set_option exponentiation.threshold 2000
namespace Cu
open PySem PySem.Spec PyProof.Rows L2

def eachN (cs : List Int) : Nat := 1 + 200 / max 1 cs.length
def flatN (cs : List Int) (i : Nat) : List Int := (cs.take i).flatMap fun c => rowF c (eachN cs)
def padN (xs : List Int) (i : Nat) : List Int := xs ++ List.replicate i 0
def numsOf (ns : List Int) : List Int := (padN (flatN (ns.take 63) (ns.take 63).length) (200 - (flatN (ns.take 63) (ns.take 63).length).length)).take 200
theorem flatN_succ {cs : List Int} {i : Nat} {c : Int} (h : cs[i]? = some c) : flatN cs (i + 1) = flatN cs i ++ rowF c (eachN cs) := by
  unfold flatN
  rw [List.take_add_one, h]
  show List.flatMap _ (cs.take i ++ [c]) = _
  rw [List.flatMap_append, List.flatMap_cons, List.flatMap_nil, List.append_nil]
theorem flatN_len (cs : List Int) (i : Nat) : (flatN cs i).length = (cs.take i).length * eachN cs := by
  unfold flatN
  rw [List.length_flatMap]
  have : (cs.take i).map (fun a => (rowF a (eachN cs)).length) = List.replicate (cs.take i).length (eachN cs) := by
    rw [List.map_congr_left (g := fun _ => eachN cs) fun a _ => rowF_len a _, List.map_const']
  rw [this, List.sum_replicate_nat]
theorem flatN_le {cs : List Int} (h : cs.length ≤ 63) (i : Nat) : (flatN cs i).length ≤ 263 := by
  rw [flatN_len]
  have h1 : (cs.take i).length ≤ cs.length := by rw [List.length_take]; omega
  refine Nat.le_trans (Nat.mul_le_mul_right _ h1) ?_
  unfold eachN
  rw [Nat.mul_add, Nat.mul_one]
  have h2 : cs.length * (200 / max 1 cs.length) ≤ 200 := by
    refine Nat.le_trans (Nat.mul_le_mul_right _ (Nat.le_max_right 1 cs.length)) ?_
    exact Nat.mul_div_le 200 (max 1 cs.length)
  omega
theorem flatN_bd {cs : List Int} {i : Nat} : ∀ n ∈ flatN cs i, 0 ≤ n ∧ n ≤ 1008 := fun n hn => by
  obtain ⟨c, _, hc⟩ := List.mem_flatMap.mp hn
  obtain ⟨k, _, rfl⟩ := List.mem_map.mp hc
  exact rItem_bd c k
theorem nums_ok (ns : List Int) : Nums (numsOf ns) := by
  refine ⟨?_, fun n hn => ?_⟩
  · unfold numsOf padN
    rw [List.length_take, List.length_append, List.length_replicate]
    omega
  · rcases List.mem_append.mp (List.mem_of_mem_take hn) with h | h
    · exact flatN_bd n h
    · rw [List.eq_of_mem_replicate h]
      decide
theorem padN_succ (xs : List Int) (i : Nat) : padN xs (i + 1) = padN xs i ++ [0] := by
  unfold padN
  rw [List.replicate_succ', List.append_assoc]
theorem ints_app (a b : List Int) : a.map PyData.int ++ b.map PyData.int = (a ++ b).map PyData.int := (List.map_append ..).symm
section
variable {P : Program} {w : World} {K : PySem.W.Frag} {mg : Str → Option Value} {base : Heap} {C : Addr} {W Hh : Int}
theorem df_numbers (T : Txt K mg C) (ns : List Int) : Dfn P w K mg base "_law_numbers" 2 [scr K ns, pI 200] (pL ((numsOf ns).map PyData.int)) := by
  have hcs : (ns.take 63).length ≤ 63 := List.length_take_le _ _
  generalize hgc : ns.take 63 = cs at hcs
  have hE : ((eachN cs : Nat) : Int) = 1 + 200 / max 1 ((cs.length : Nat) : Int) := by
    unfold eachN
    rw [Int.natCast_add, Int.natCast_ediv]
    have : ((max 1 cs.length : Nat) : Int) = max 1 ((cs.length : Nat) : Int) := by omega
    rw [this]
    rfl
  have hE2 : eachN cs ≤ 300 := by
    unfold eachN
    have := Nat.div_le_self 200 (max 1 cs.length)
    omega
  refine dfn_of T.law_numbers scLawNumbers rfl (fun _ _ _ _ _ _ us hl => match us, hl with | [_, _], _ => rfl) fun f cdv A outer s' H E hr => ?_
  refine svs_cons (sv_set 2 scLawNumbers.nd (ev_cast (ev_scrTo (n := 63) (ev_var 0) ev_int) (by rw [hgc]))) (svs_cons (sv_set 3 scLawNumbers.nd (ev_cast (ev_add ev_int (ev_div (ev_var 1) (ev_max2 T.zMax ev_int (ev_lenL T.zLen (ev_var 2))) ?_)) (by rw [List.length_map, ← hE]))) ?_)
  · rw [List.length_map]
    constructor <;> omega
  refine pss_to (ps_newL (ρ := [some (scr K ns), some (pI 200), some (pL (cs.map PyData.int)), some (pI (eachN cs : Nat)), none, none, none]) (ρ0 := fun D => [none, some (pI 200), some (offL D (cs.map PyData.int)), some (pI (eachN cs : Nat)), none, none, none])
    (ρ' := fun D => [none, some (pI 200), some (offL D (cs.map PyData.int)), some (pI (eachN cs : Nat)), some (pOwn D []), none, none]) (Q := fun _ => pL ((numsOf ns).map PyData.int)) 4 scLawNumbers.nd (fun D => ?_) (fun D => ⟨.same, .off, .same, trivial⟩)) fun E σ H ⟨st, k⟩ => ⟨st, fun D v H' _ e q => k v H' e q⟩
  refine sos_cons (so_for (ds := cs.map PyData.int) PassesOwn.never (evix_off (ev_var 2))
      (fun i => [none, some (pI 200), some (offL D (cs.map PyData.int)), some (pI (eachN cs : Nat)), some (pOwn D ((flatN cs i).map PyData.int)), none, none])
      (fun i => [none, some (pI 200), some (offL D (cs.map PyData.int)), some (pI (eachN cs : Nat)), some (pOwn D ((flatN cs i).map PyData.int)), some (pI (cs.getD i 0)), none]) (fun _ => [5]) ⟨rfl, rfl, rfl, rfl, trivial⟩ (fun i d hd => ?_) (fun i d hd => ?_))
    (sos_cons (so_while PassesOwn.never (fun i => [none, some (pI 200), some (offL D (cs.map PyData.int)), some (pI (eachN cs : Nat)), some (pOwn D ((padN (flatN cs cs.length) i).map PyData.int)), none, none]) (200 - (flatN cs cs.length).length) ?_ (fun i hi => ?_) ?_ (fun i hi => ?_))
    (sos_one (so_of (sv_ret (ev_cast (ev_slTo (n := 200) (ev_wk (ev_var 4) Wk.own) (ev_var 1)) ?_)))))
  · rw [List.getElem?_map] at hd
    cases hx : cs[i]? with
    | none =>
      rw [hx] at hd
      cases hd
    | some c =>
      rw [hx] at hd
      cases hd
      rw [List.getD_eq_getElem?_getD, hx]
      exact tg_name 5 scLawNumbers.nd
  · rw [List.getElem?_map] at hd
    cases hx : cs[i]? with
    | none =>
      rw [hx] at hd
      cases hd
    | some c =>
      rw [List.getD_eq_getElem?_getD, hx, flatN_succ hx]
      have lb := flatN_le hcs (i + 1)
      rw [flatN_succ hx, List.length_append] at lb
      refine sos_weak_end (sos_one (so_for (ds := (rowF c (eachN cs)).map PyData.int) PassesOwn.never (evix_new (ev_callF (df_row T c (eachN cs) hE2) hr (eva_cons (ev_var 5) (eva_cons (ev_var 3) eva_nil))) 4 rfl)
        (fun j => [none, some (pI 200), some (offL D (cs.map PyData.int)), some (pI (eachN cs : Nat)), some (pOwn D ((flatN cs i ++ (rowF c (eachN cs)).take j).map PyData.int)), some (pI c), none])
        (fun j => [none, some (pI 200), some (offL D (cs.map PyData.int)), some (pI (eachN cs : Nat)), some (pOwn D ((flatN cs i ++ (rowF c (eachN cs)).take j).map PyData.int)), some (pI c), some (pI ((rowF c (eachN cs)).getD j 0))]) (fun _ => [6]) ?_ (fun j d hd => ?_) (fun j d hd => ?_))) ?_
      · rw [List.take_zero, List.append_nil]
        exact ⟨rfl, rfl, rfl, rfl, rfl, trivial⟩
      · rw [List.getElem?_map] at hd
        cases hy : (rowF c (eachN cs))[j]? with
        | none =>
          rw [hy] at hd
          cases hd
        | some y =>
          rw [hy] at hd
          cases hd
          rw [List.getD_eq_getElem?_getD, hy]
          exact tg_name 6 scLawNumbers.nd
      · rw [List.getElem?_map] at hd
        cases hy : (rowF c (eachN cs))[j]? with
        | none =>
          rw [hy] at hd
          cases hd
        | some y =>
          have e9 : (flatN cs i ++ (rowF c (eachN cs)).take (j + 1)).map PyData.int = (flatN cs i ++ (rowF c (eachN cs)).take j).map PyData.int ++ [.int y] := by
            rw [List.take_add_one, hy, ← List.append_assoc, List.map_append]
            rfl
          rw [List.getD_eq_getElem?_getD, hy, e9]
          refine sos_weak_end (sos_one (so_app (ρ' := [none, some (pI 200), some (offL D (cs.map PyData.int)), some (pI (eachN cs : Nat)), some (pOwn D ((flatN cs i ++ (rowF c (eachN cs)).take j).map PyData.int ++ [.int y])), some (pI c), some (pI y)]) (ev_var 4) (ev_var 6) rfl (flat_int _) ?_
            ⟨.same (rob_flat rfl), .same (rob_off (flat_int _)), .same (rob_flat rfl), .own, .same (rob_flat rfl), .same (rob_flat rfl), trivial⟩)) ⟨rfl, rfl, rfl, rfl, rfl, trivial⟩
          rw [List.length_map, List.length_append, List.length_take]
          omega
      · rw [List.length_map, List.take_length]
        exact ⟨rfl, rfl, rfl, rfl, trivial⟩
  · rw [List.length_map]
    unfold padN
    rw [List.replicate_zero, List.append_nil]
    exact ⟨rfl, rfl, rfl, rfl, trivial⟩
  · refine evt_cast (evt_lt (ev_lenL T.zLen (ev_wk (ev_var 4) Wk.own)) (ev_var 1)) (decide_eq_true ?_)
    unfold padN
    rw [List.length_map, List.length_append, List.length_replicate]
    omega
  · refine evt_cast (evt_lt (ev_lenL T.zLen (ev_wk (ev_var 4) Wk.own)) (ev_var 1)) (decide_eq_false ?_)
    unfold padN
    rw [List.length_map, List.length_append, List.length_replicate]
    omega
  · have lb := flatN_le hcs cs.length
    rw [padN_succ, List.map_append]
    refine sos_one (so_app (ev_var 4) ev_int rfl (flat_int _) ?_ ⟨.same (rob_flat rfl), .same (rob_off (flat_int _)), .same (rob_flat rfl), .own, trivial⟩)
    unfold padN
    rw [List.length_map, List.length_append, List.length_replicate]
    omega
  · unfold numsOf
    rw [hgc, List.map_take]
end
end Cu
set_option Elab.async false
set_option linter.all false
set_option maxRecDepth 100000
set_option maxHeartbeats 2000000
/-! enumerate of an empty tuple -/
namespace Cu
open PySem PySem.Spec PyProof.Rows L2

theorem meets_enumerate_new1 {v : Value} {o : Obj} {H : Heap → Prop} (B : Begins v o H) :
    PySem.Meets (Builtin.«enumerate.__new__» ⟨[.type "enumerate", v], []⟩) (fun _ R s => H s.heap ∧
      R (.ok (.ret (.ref (s.heap.push o).objs.size))) { s with heap := (s.heap.push o).push { cls := .type "enumerate", data := .fields #[.none, .bool false, .ref s.heap.objs.size, rawInt 0, .none, .none] } }) :=
  .of_wp fun prog w A R s h => by
    obtain ⟨hp, g, d, tk, os⟩ := s; obtain ⟨h1, h⟩ := h
    have hsub := sub_enumerate
    have q1 : ∀ {A' : Around} {E : Value → Shared → Prop} {Q : Value → Shared → Prop}, Q (.ref hp.objs.size) ⟨hp.push o, g, d, tk, os⟩ → wpAny (model prog w) A' (pyIter v) Q E ⟨hp, g, d, tk, os⟩ :=
      fun q => B.iter prog w _ _ ⟨hp, g, d, tk, os⟩ _ h1 q
    wp_walk using q1
    refine wpAny_stack_any fun st => wpAny_pure ?_
    split
    · rename_i c _ _ _ _ _
      cases (c == Value.type "enumerate")
      · wp_walk using q1
        exact ⟨_, rfl, h⟩
      · wp_walk using q1
        exact ⟨_, rfl, h⟩
    · wp_walk using q1
      exact ⟨_, rfl, h⟩
section
variable {prog : Program} {w : World} {A : Around} {E : Value → Shared → Prop} {s : Shared}
theorem enum_begins1 {v : Value} {o : Obj} {H : Heap → Prop} {Q : Value → Shared → Prop} (B : Begins v o H) (h1 : H s.heap)
    (h : ∀ h', IsEnum h' (s.heap.objs.size + 1) s.heap.objs.size 0 .none → h'.get? s.heap.objs.size = some o → h'.objs.size = s.heap.objs.size + 2 →
      (∀ b o, s.heap.get? b = some o → h'.get? b = some o) → Q (.ref (s.heap.objs.size + 1)) { s with heap := h' }) :
    wpAny (model prog w) A (call (.type "enumerate") [v]) Q E s := by
  refine callType_new F.called_enumerate (by decide) (F.typeCall_enumerate_1 _) (F.newCall_enumerate_1 _) (fun obj => F.args_object_init_2 obj _) F.entry_enumerate_new
    (meets_enumerate_new1 B) ⟨h1, ?_⟩
  have hz : (s.heap.push o).objs.size = s.heap.objs.size + 1 := Heap.size_push ..
  show _ ∧ _
  rw [hz]
  have he : IsEnum ((s.heap.push o).push { cls := .type "enumerate", data := .fields #[.none, .bool false, .ref s.heap.objs.size, rawInt 0, .none, .none] }) (s.heap.objs.size + 1) s.heap.objs.size 0 .none := by
    have := Heap.get?_push_size (s.heap.push o) (o := { cls := .type "enumerate", data := .fields #[.none, .bool false, .ref s.heap.objs.size, rawInt 0, .none, .none] }) rfl
    rw [hz] at this; exact this
  refine ⟨⟨_, he, rfl⟩, h _ he (Heap.get?_push_of_some _ (Heap.get?_push_size _ B.free)) (by rw [Heap.size_push, hz]) fun b o x => Heap.get?_push_of_some _ (Heap.get?_push_of_some _ x)⟩
end
/-- the empty tuple at a, nothing to be handed out -/
def IteT0 (K : PySem.W.Frag) (a : Addr) : It := ⟨fun _ _ => False, fun _ _ _ _ => False, fun i H => i = 0 ∧ SqT K H a []⟩
theorem turn_enumT0 {P : Program} {w : World} {K : PySem.W.Frag} {elts : List Expr} {kk : Nat} {tpos : Pos} (a e it : Addr) (hai : a ≠ it) :
    Turn P w K (.Tuple elts kk tpos) (IteT0 K a) [e, it] e (fun i h => (∃ old, IsEnum h e it ((i : Nat) : Int) old) ∧ h.IsTupleIter it a i ∧ e ≠ it) where
  mem := by simp
  obj := fun i h st b hb => by
    obtain ⟨⟨old, he⟩, ⟨o, ho, hc, hd⟩, _⟩ := st
    have e' : b = e ∨ b = it := by simpa using hb
    rcases e' with z | z
    · rw [z]; exact ⟨_, he, fun v q => nomatch q⟩
    · rw [z]; exact ⟨o, ho, fun v q => by rw [hd] at q; cases q⟩
  keep := fun i h h' st k => let ⟨⟨old, he⟩, hi, hne⟩ := st; ⟨⟨old, k e (by simp) _ he⟩, hi.at fun o q => k it (by simp) o q, hne⟩
  item := by
    intro X hP hw hK hc i pins s σ H E I hf st hg
    exact hg.elim
  done := by
    intro X hP hw hK hc i pins s σ H E I hf st hg
    subst hP hw hK
    obtain ⟨⟨old, he⟩, hit, hne⟩ := st
    obtain ⟨rfl, hq⟩ := hg
    obtain ⟨its, rv, p, hz⟩ := I.tuple hq
    cases rv
    obtain ⟨f0, f1, f2, f3, f4, f5⟩ := hf it (by simp)
    exact wpAny_pyNext_enum_endD (Draws.tuple (A := X.A.in1) (show X.A.in1.handled = none from I.ok.hd hc) it a hai #[]) he ⟨hit, p⟩ fun h' eb => ⟨rfl, I.turned (t' := s.toks) (fun b o hb q => eb b o hb q) f0 f1 f3 f4 f5⟩
  self := fun A i s Q E st h => let ⟨⟨_, he⟩, _⟩ := st; wpAny_pyIter_enum he h
def iEnumT0 (K : PySem.W.Frag) (ta : TA) : TI := fun σ H R => ta σ H fun vs H1 => ∃ a, vs = [.ref a] ∧ SqT K H1 a [] ∧ R (IteT0 K a) H1
theorem pi_enumT0 {X : Cx} {e : Expr} {ta : TA} {p pos tpos : Pos} {elts : List Expr} {kk : Nat} (hg : Gl X "enumerate") (hm : X.mg "enumerate" = none) (ha : PA X [e] ta) (hs : starEach [e] X.env = [(false, eval e X.env)] := by rfl) :
    PI X (.Tuple elts kk tpos) (.Call (.Name "enumerate" p) [e] [] pos) (iEnumT0 X.K ta) := by
  refine ⟨fun pins s σ H R I h => ?_⟩
  refine Call_ (ld_blt I hg hm boot_enumerate (PyProof.Rows.callWith_type1 (thn (ha.run pos pins s σ H _ I h) fun us s1 ⟨vs, H1, I1, r1, q1⟩ => ?_) hs rfl))
  obtain ⟨a, ex, hq, q⟩ := q1
  subst ex
  cases r1 with
  | cons r rr =>
    cases rr
    cases r
    obtain ⟨its, rv, p', hz⟩ := I1.tuple hq
    cases rv
    have hlt : a < s1.heap.objs.size := by
      obtain ⟨o, ho, _⟩ := p'
      exact Heap.lt_size ho
    refine enum_begins1 (begins_tuple a #[]) p' fun h' he hit hsz hk => wpAny_pyIter_enum he ?_
    have I2 : Inv X pins σ H1 { s1 with heap := h' } := I1.kept (t' := s1.toks) hk
    refine ⟨s1.heap.objs.size + 1, [s1.heap.objs.size + 1, s1.heap.objs.size], _, _, H1, rfl, I2, turn_enumT0 a (s1.heap.objs.size + 1) s1.heap.objs.size (Nat.ne_of_lt hlt), ⟨⟨.none, he⟩, ⟨_, hit, rfl, rfl⟩, Nat.succ_ne_self _⟩, fun b hb => ?_, q⟩
    have e' : b = s1.heap.objs.size + 1 ∨ b = s1.heap.objs.size := by simpa using hb
    have hle : s1.heap.objs.size ≤ b := by
      rcases e' with z | z
      · rw [z]; exact Nat.le_add_right _ _
      · rw [z]; exact Nat.le_refl _
    exact I1.fpOk hle (I1.hok.fresh hle)
theorem evi_enumT0 {X : Cx} {a : Expr} {ρ : Rho} {p pos : Pos} {elts : List Expr} {kk : Nat} {tpos : Pos} (hm : X.mg "enumerate" = none) (h : Ev X a ρ (pT [])) (hg : Gl X "enumerate" := by rfl) (hs : starEach [a] X.env = [(false, eval a X.env)] := by rfl) :
    EvI X (.Tuple elts kk tpos) (.Call (.Name "enumerate" p) [a] [] pos) ρ [] :=
  pi_to (pi_enumT0 hg hm (eva_cons h eva_nil hs) hs) fun σ H R ⟨st, k⟩ => ⟨st, fun vs H1 e1 q => by
    obtain ⟨v, rfl, r⟩ := ps1 q
    obtain ⟨l, xs, rfl, hl, q2⟩ := r.ofT
    cases q2
    exact ⟨l, rfl, SqT.of hl, k _ H1 e1 ⟨fun i _ _ hi => absurd hi (Nat.not_lt_zero i), fun i _ _ _ _ hi => absurd hi (Nat.not_lt_zero i), fun H' e => ⟨rfl, SqT.of (e _ _ hl)⟩⟩⟩⟩
end Cu
set_option Elab.async false
set_option linter.all false
set_option maxRecDepth 100000
set_option maxHeartbeats 2000000
namespace Cu
open PySem PySem.Spec PyProof.Rows L2

/-! ### the empty default -/
def pE (K : PySem.W.Frag) : Pd := ⟨fun H v => ∃ T, v = .ref T ∧ SqT K H T [], fun e ⟨T, h1, h2⟩ => ⟨T, h1, h2.elim (fun h => .inl (h.elim (fun h => .inl (e _ _ h)) fun ⟨o, h⟩ => .inr ⟨o, e _ _ h⟩)) fun h => .inr h⟩⟩
/-- an instance at x -/
def pIns (C x : Addr) (fs : List (Str × V)) : Pd := ⟨fun H v => v = .ref x ∧ ∃ dx, H x = some (.ins C dx fs), fun e ⟨h1, dx, h2⟩ => ⟨h1, dx, e _ _ h2⟩⟩
/-- with its last field -/
def pInsT (C x : Addr) (w h : Int) : Pd := ⟨fun H v => v = .ref x ∧ ∃ dx p, H x = some (.ins C dx [("width", .int w), ("height", .int h), ("pockets", p)]) ∧ Dr H p (.tuple []), fun e ⟨h1, dx, p, h2, h3⟩ => ⟨h1, dx, p, e _ _ h2, h3.mono e⟩⟩
section
variable {X : Cx} {C x : Addr} {e a : Expr} {ρ ρ' : Rho} {P : Pd} {fs : List (Str × V)} {f : Str} {pos p p2 : Pos}
theorem so_fld (hc : Cls X.K C) (hn : NoAttr X.K C f) (he : Ev X e ρ P) (ho : Ev X a ρ (pIns C x fs)) (hl : fs.length < 1000)
    (hq : ∀ H H' v dx, SameX x H H' → H x = some (.ins C dx fs) → H' x = some (.ins C dx (putF f v fs)) → P.h H v → RhoTo (fun P P' => ∀ u, P.h H u → P'.h H' u) ρ ρ')
    (hs : swapsWith e (some (.Attribute a f p)) pos.line X.env = pure false := by rfl) : So X x (.Assign [.Attribute a f p] e pos) ρ (.nx ρ') :=
  ps_to (ps_fld ho he hs) fun E σ H ⟨st, k⟩ => ⟨st, fun v H1 e1 q => ⟨st.mono e1, fun u H2 e2 q2 => by
    obtain ⟨rfl, dx, hx⟩ := q2
    refine ⟨x, C, dx, fs, rfl, hx, hc, hn, hl, k _ _ ((SameX.of (e1.trans e2)).trans .put) ?_⟩
    exact StOk.to (fun P P' v z => z v) (hq H2 _ v dx .put hx upd_same (P.up e2 q)) ((st.mono e1).mono e2)⟩⟩
theorem ev_lenE (hm : X.mg "len" = none) (ha : Ev X a ρ (pE X.K)) (hg : Gl X "len" := by rfl) (he : starEach [a] X.env = (false, eval a X.env) :: starEach [] X.env := by rfl) :
    Ev X (.Call (.Name "len" p) [a] [] pos) ρ (pI 0) :=
  ev_cB call_len_seq hm PySem.boot_len (eva_cons ha eva_nil he) (fun H vs Q q k => by
    cases q with
    | cons h1 h2 =>
      cases h2
      obtain ⟨T, rfl, h⟩ := h1
      exact ⟨T, [], rfl, .inr h, k _ H (Same.refl H) (.int _)⟩) hg (by decide) (by decide) he rfl
theorem yields_none {K : PySem.W.Frag} {G : Hp} {l : Addr} (hl : SqT K G l []) : Yields (Itt K l) G [] where
  go := fun i H e hi => absurd hi (Nat.not_lt_zero i)
  yld := fun i H x H' e hi _ => absurd hi (Nat.not_lt_zero i)
  stop := fun H e => ⟨[], hl.elim (fun h => .inl (h.elim (fun h => .inl (e _ _ h)) fun ⟨o, h⟩ => .inr ⟨o, e _ _ h⟩)) fun h => .inr h, Nat.le_refl _⟩
theorem evi_none {tg : Expr} (h : Ev X e ρ (pE X.K)) : EvI X tg e ρ [] := pi_to (pi_tup h) fun σ H R ⟨st, k⟩ => ⟨st, fun v H1 e1 q => by
  obtain ⟨T, rfl, hl⟩ := q
  exact ⟨T, rfl, ⟨[], hl⟩, k _ H1 e1 (yields_none hl)⟩⟩
theorem ev_pk {w h : Int} (hc : Cls X.K C) (hn : NoAttr X.K C "pockets") (ho : Ev X a ρ (pInsT C x w h)) (hb : attributeBase a "pockets" X.env (eval a X.env) = eval a X.env := by rfl) : Ev X (.Attribute a "pockets" pos) ρ (pT []) :=
  pe_to (pe_fld ho hb) fun σ H Q ⟨st, k⟩ => ⟨st, fun v H1 e1 q => by
    obtain ⟨rfl, dx, pk, h2, h3⟩ := q
    refine ⟨x, C, dx, _, pk, rfl, h2, hc, hn, ?_, k _ H1 e1 h3⟩
    simp only [List.lookup, show (("pockets" : Str) == "width") = false by decide +kernel, show (("pockets" : Str) == "height") = false by decide +kernel, show (("pockets" : Str) == "pockets") = true by decide +kernel]⟩
end
section
variable {P : Program} {w : World} {K : PySem.W.Frag} {mg : Str → Option Value} {base : Heap} {C : Addr} {W Hh : Int}
theorem df_require (T : Txt K mg C) : Dfn P w K mg base "require" 1 [pB true] pN :=
  dfn_ofN (ρ' := [some (pB true)]) T.require scRequire rfl (fun _ _ _ _ _ _ us hl => match us, hl with | [_], _ => rfl) fun f cdv A outer s' H E hr =>
    svs_one (sv_ifno (evt_cast (evt_not (evt_val (ev_var 0))) rfl))
def spInit (K : PySem.W.Frag) (C : Addr) (W Hh : Int) : Sp := fun vs H Q _ => ∃ x T dx, vs = [.ref x, .int W, .int Hh, .ref T] ∧ SqT K H T [] ∧ H x = some (.ins C dx []) ∧
  ∀ H', SameX x H H' → (tab C W Hh).h H' (.ref x) → Q .non H'
theorem putF_ne {f g : Str} {v u : V} {r : List (Str × V)} (h : g ≠ f) : putF f v ((g, u) :: r) = (g, u) :: putF f v r := if_neg h
theorem rhoI {H H' : Hp} {i : Int} (u : V) (h : (pI i).h H u) : (pI i).h H' u := by
  obtain rfl := Dr.ofI h
  exact .int i
theorem rhoE {K : PySem.W.Frag} {C x dx : Addr} {fs : List (Str × V)} {H H' : Hp} (e : SameX x H H') (hx : H x = some (.ins C dx fs)) (u : V) (h : (pE K).h H u) : (pE K).h H' u := by
  obtain ⟨T, rfl, q⟩ := h
  refine ⟨T, rfl, q.elim (fun h => .inl (h.elim (fun h => .inl (e _ _ (ne_of h hx (by intro z; cases z)) h)) fun ⟨o, h⟩ => .inr ⟨o, e _ _ (ne_of h hx (by intro z; cases z)) h⟩)) fun h => .inr h⟩
theorem fn_init (T : Txt K mg C) (hw : 0 < W) (hw2 : W ≤ 10 ^ 30) (hh : 0 < Hh) (hh2 : Hh ≤ 10 ^ 30) {f : Addr} {fd : FuncData} {T0 : Addr}
    (F : FunD K "__init__" "Table.__init__" (defArgs sTableInit) (defBody sTableInit) (defScope sTableInit) [.ref T0] [] f fd) : FnOk P w K mg base CX0 2 f fd ["self", "width", "height", "pockets"] (spInit K C W Hh) := by
  refine F.ok (N := nTableInit) scTableInit (fun vs H Q E ⟨x, T, dx, e, _⟩ => by rw [e]; rfl) fun cdv A outer s H vs Q E hr q => ?_
  obtain ⟨x, T1, dx, rfl, hT, hx, k⟩ := q
  refine ⟨_, (show Sos (CxC P w K mg base nTableInit "Table.__init__" (defScope sTableInit) f cdv A outer s H E) x (defBody sTableInit) [some (pIns C x []), some (pI W), some (pI Hh), some (pE K), none, none] (.nx [some (pInsT C x W Hh), some (pI W), some (pI Hh), some (pE K), none, none]) from ?_).nox, ?_⟩
  · refine sos_cons (so_of (sv_drop (ev_call (df_require T) hr (eva_cons (ev_cast (ev_and (ev_lele ev_int (ev_var 1) (ev_gint T.cMOST)) fun _ => ev_one (ev_lele ev_int (ev_var 2) (ev_gint T.cMOST))) ?_) eva_nil))))
      (sos_cons (so_fld (ρ' := [some (pIns C x [("width", .int W)]), some (pI W), some (pI Hh), some (pE K), none, none]) T.cls T.nW (ev_var 1) (ev_var 0) (by decide) ?_)
      (sos_cons (so_fld (ρ' := [some (pIns C x [("width", .int W), ("height", .int Hh)]), some (pI W), some (pI Hh), some (pE K), none, none]) T.cls T.nH (ev_var 2) (ev_var 0) (Nat.le_of_ble_eq_true rfl) ?_)
      (sos_cons (so_of (sv_drop (ev_call (df_require T) hr (eva_cons (ev_cast (ev_and (ev_le (ev_lenE T.zLen (ev_var 3)) (ev_gint T.cMOSTPOCKETS)) fun _ => ev_one (ev_all (bs := []) T.zAll
        (ev_lc (xs := ([] : List Int)) (enc := PyData.int) (pr := fun _ => true) (gd := PyData.int) (ρx := fun _ => []) (is := []) [("point", 4)] scTableInit.nd (blkOk_by (N := nTableInit) (sc := defScope sTableInit) (by decide +kernel)) (evi_none (ev_var 3)) (by simp)
          (fun x hx => absurd hx (List.not_mem_nil)) (fun x hx => absurd hx (List.not_mem_nil)) (fun x hx => absurd hx (List.not_mem_nil)) (fun x hx => absurd hx (List.not_mem_nil)) (by decide)))) ?_) eva_nil))))
      (sos_cons (so_fld (P := pT []) (ρ' := [some (pInsT C x W Hh), some (pI W), some (pI Hh), some (pE K), none, none]) T.cls T.nP (ev_tupleL T.zTuple
        (ev_lc (xs := ([] : List Int)) (enc := PyData.int) (pr := fun _ => true) (gd := PyData.int) (ρx := fun _ => []) (is := []) [("point", 4)] scTableInit.nd (blkOk_by (N := nTableInit) (sc := defScope sTableInit) (by decide +kernel)) (evi_none (ev_var 3)) (by simp)
          (fun x hx => absurd hx (List.not_mem_nil)) (fun x hx => absurd hx (List.not_mem_nil)) (fun x hx => absurd hx (List.not_mem_nil)) (fun x hx => absurd hx (List.not_mem_nil)) (by decide))) (ev_var 0) (Nat.le_of_ble_eq_true rfl) ?_)
      (sos_one (so_of (sv_for (ds := []) PassesOwn.never (evi_enumT0 T.zEnumerate (ev_pk T.cls T.nP (ev_var 0))) (fun _ => [some (pInsT C x W Hh), some (pI W), some (pI Hh), some (pE K), none, none]) (fun _ => []) (fun _ => []) ⟨rfl, rfl, rfl, rfl, trivial⟩
        (fun i d hd => by simp at hd) (fun i d hd => by simp at hd))))))))
    · rw [decide_eq_true (show (1 : Int) ≤ W by omega), decide_eq_true hw2, decide_eq_true (show (1 : Int) ≤ Hh by omega), decide_eq_true hh2]
      rfl
    · intro H H' v dx e h1 h2 hp
      obtain rfl := Dr.ofI hp
      exact ⟨fun u hu => ⟨hu.1, dx, h2⟩, fun u => rhoI u, fun u => rhoI u, fun u => rhoE e h1 u, trivial⟩
    · intro H H' v dx e h1 h2 hp
      obtain rfl := Dr.ofI hp
      rw [putF_ne (by decide +kernel)] at h2
      exact ⟨fun u hu => ⟨hu.1, dx, h2⟩, fun u => rhoI u, fun u => rhoI u, fun u => rhoE e h1 u, trivial⟩
    · rfl
    · intro H H' v dx e h1 h2 hp
      rw [putF_ne (by decide +kernel), putF_ne (by decide +kernel)] at h2
      obtain ⟨l, xs, rfl, hl, q⟩ := Dr.ofT hp
      cases q
      exact ⟨fun u hu => ⟨hu.1, dx, _, h2, .tup (e _ _ (ne_of hl h1 (by intro z; cases z)) hl) .nil⟩, fun u => rhoI u, fun u => rhoI u, fun u => rhoE e h1 u, trivial⟩
  · refine ⟨⟨⟨rfl, dx, hx⟩, .int _, .int _, ⟨_, rfl, hT⟩, ?_⟩, fun σ' H' e st => ?_⟩
    · exact stok_nones 2
    · match σ', st with
      | some v :: σ'', st =>
        obtain ⟨⟨rfl, dx', pk, h1, h2⟩, _⟩ := st
        exact k H' e ⟨x, dx', pk, rfl, h1⟩
theorem ev_table {X : Cx} {a b : Expr} {ρ : Rho} {p pos : Pos} (T : Txt X.K X.mg C) (hr : Room 3 X.A) (ha : Ev X a ρ (pI W)) (hb : Ev X b ρ (pI Hh)) (hw : 0 < W) (hw2 : W ≤ 10 ^ 30) (hh : 0 < Hh) (hh2 : Hh ≤ 10 ^ 30) (hg : Gl X "Table" := by rfl)
    (he : starEach [a, b] X.env = (false, eval a X.env) :: starEach [b] X.env := by rfl) (he2 : starEach [b] X.env = (false, eval b X.env) :: starEach [] X.env := by rfl) (hpl : (backTo pos (starEach [b] X.env)).any (·.1) = false := by rfl) :
    Ev X (.Call (.Name "Table" p) [a, b] [] pos) ρ (tab C W Hh) := by
  obtain ⟨f, fd, T0, hm, M, F, hT⟩ := T.make
  obtain ⟨ds, hd, hbs⟩ := F.binds1 (ps := ["self", "width", "height", "pockets"]) 3 0 (by simp) rfl fun T kV doc pm an cdv ct us its h1 h2 => match us, its, h1, h2 with | [_, _, _], [_], _, _ => ⟨_, rfl, rfl⟩
  refine pe_to (pe_make (E := E0) M (fn_init (P := X.prog) (w := X.w) (base := X.base) (W := W) (Hh := Hh) T hw hw2 hh hh2 F) hr hg hm hbs hd pass0 (eva_cons ha (eva_cons hb eva_nil he2) he) (by decide) he hpl) fun σ H Q ⟨st, k⟩ => ⟨st, fun vs H1 e1 q x dx hx hdx hne => ?_⟩
  obtain rfl := q.int2
  have s1 : Same H1 (L2.upd (L2.upd H1 dx (.own x)) x (.ins C dx [])) := fun b o hb => by
    rw [upd_ne (ne_of_none hb hx), upd_ne (ne_of_none hb hdx)]
    exact hb
  refine ⟨x, T0, dx, rfl, hT _, upd_same, fun H' e t => ⟨rfl, k _ H' (e1.trans fun b o hb => ?_) t⟩⟩
  exact e b o (ne_of_none hb hx) (s1 b o hb)
end
end Cu
set_option Elab.async false
set_option linter.all false
set_option maxRecDepth 100000
set_option maxHeartbeats 2000000
/-! itertools.combinations(xs, len(xs)), at the library's level. -/
namespace CuCmb
open PySem PySem.Spec
open Sem (wp)

theorem mro_cmb : mroOf (.type "itertools.combinations") = pure [.type "itertools.combinations", .type "object"] := by rw [mroOf_type]; kernel_rfl
theorem lookup_cmb_new : typeLookup (.type "itertools.combinations") "__new__" = pure (some (.builtin "itertools.combinations.__new__")) := by rw [typeLookup_type, builtinLookup_eq_fast]; kernel_rfl
theorem slot_cmb_init : Slot "itertools.combinations" "__init__" "object.__init__" :=
  .of (owner := "object") (n := "__init__") (by rw [typeLookup_type, builtinLookup_eq_fast]; kernel_rfl) (by decide +kernel) (by decide +kernel) (by decide +kernel)
    (by first | exact .inl (by decide +kernel) | exact .inr (by decide +kernel)) (by rw [isSubtype_type]; kernel_rfl)
theorem sub_cmb : isSubtype (.type "itertools.combinations") (.type "itertools.combinations") = pure true := by rw [isSubtype_type]; kernel_rfl
theorem called_cmb : TypeCalled "itertools.combinations" "itertools.combinations.__new__" "object.__init__" :=
  ⟨by decide +kernel, by decide +kernel, ⟨_, _, mro_cmb⟩, madeBy_type mro_cmb lookup_cmb_new (by decide +kernel), by decide +kernel, sub_cmb, slot_cmb_init⟩
theorem typeCall_cmb_2 (a b : Value) : checkTypeCall "itertools.combinations" ⟨[a, b], []⟩ = pure () := by kernel_rfl
theorem newCall_cmb_2 (a b : Value) : checkBuiltinCall "itertools.combinations.__new__" ⟨[.type "itertools.combinations", a, b], []⟩ = pure () := by kernel_rfl
theorem entry_cmb_new : entryFor table "itertools.combinations.__new__" = some Builtin.«itertools.combinations.__new__» := entryFor_of_tree (by kernel_rfl)
theorem slot_cmb_iter : Slot "itertools.combinations" "__iter__" "itertools.combinations.__iter__" :=
  .of (owner := "itertools.combinations") (n := "__iter__") (by rw [typeLookup_type, builtinLookup_eq_fast]; kernel_rfl) (by decide +kernel) (by decide +kernel) (by decide +kernel)
    (by first | exact .inl (by decide +kernel) | exact .inr (by decide +kernel)) sub_cmb
theorem slot_cmb_next : Slot "itertools.combinations" "__next__" "itertools.combinations.__next__" :=
  .of (owner := "itertools.combinations") (n := "__next__") (by rw [typeLookup_type, builtinLookup_eq_fast]; kernel_rfl) (by decide +kernel) (by decide +kernel) (by decide +kernel)
    (by first | exact .inl (by decide +kernel) | exact .inr (by decide +kernel)) sub_cmb
theorem entry_cmb_iter : entryFor table "itertools.combinations.__iter__" = some Builtin.«dict_keyiterator.__iter__» :=
  entryFor_alias (id' := "dict_keyiterator.__iter__") (by kernel_rfl) (by first | rfl | decide +kernel | (unfold String.splitOn; simp +decide [String.splitOnAux])) (by decide +kernel) (by kernel_rfl)
theorem entry_cmb_next : entryFor table "itertools.combinations.__next__" = some Builtin.«itertools.combinations.__next__» := entryFor_of_tree (by kernel_rfl)
theorem owner_cmb : Manifest.owners.lookup (String.ofList ['s', 'n', 'o', 'i', 't', 'a', 'n', 'i', 'b', 'm', 'o', 'c', '.', 's', 'l', 'o', 'o', 't', 'r', 'e', 't', 'i'].reverse) = some Manifest.sig_itertools_combinations := by kernel_rfl
theorem args_cmb_iter (a : Value) : argsOk "itertools.combinations.__iter__" ⟨[a], []⟩ := by
  unfold argsOk; rw [signature?_of (id := "itertools.combinations.__iter__") (n := ['_', '_', 'r', 'e', 't', 'i', '_', '_']) (o := ['s', 'n', 'o', 'i', 't', 'a', 'n', 'i', 'b', 'm', 'o', 'c', '.', 's', 'l', 'o', 'o', 't', 'r', 'e', 't', 'i']) (by kernel_rfl) owner_cmb]; kernel_rfl
theorem args_cmb_next (a : Value) : argsOk "itertools.combinations.__next__" ⟨[a], []⟩ := by
  unfold argsOk; rw [signature?_of (id := "itertools.combinations.__next__") (n := ['_', '_', 't', 'x', 'e', 'n', '_', '_']) (o := ['s', 'n', 'o', 'i', 't', 'a', 'n', 'i', 'b', 'm', 'o', 'c', '.', 's', 'l', 'o', 'o', 't', 'r', 'e', 't', 'i']) (by kernel_rfl) owner_cmb]; kernel_rfl
theorem noDict_cmb : typeHasDict (.type "itertools.combinations") = false := by decide +kernel
end CuCmb
set_option Elab.async false
set_option linter.all false
set_option maxRecDepth 100000
set_option maxHeartbeats 2000000
namespace CuCmb
open PySem PySem.Spec
open Sem (wp)
theorem bind2 (a b : Value) : Builtin.Itertools.itBindNamed "combinations" ["iterable", "r"] 2 2 [a, b] [] = pure [some a, some b] := by
  first
    | rfl
    | kernel_rfl
    | (unfold Builtin.Itertools.itBindNamed; simp)
theorem nmC : ("itertools." ++ "combinations" : String) = "itertools.combinations" := by decide
abbrev cmbF (P : Addr) (st : Int) (held : Value) (r : Nat) : Array Value := ([.ref P, rawInt st, held] ++ (List.range r).map fun (i : Nat) => rawInt i).toArray
theorem meets_cmb_new (l : Addr) (items : Array Value) (t : Tok) (hn : items.size ≤ 3) :
    PySem.Meets (Builtin.«itertools.combinations.__new__» ⟨[.type "itertools.combinations", .ref l, .int (items.size : Nat) t], []⟩)
      (fun _ R s => s.heap.IsList l items ∧
        ∀ h' P I, (∀ b o', s.heap.get? b = some o' → h'.get? b = some o') → s.heap.objs.size ≤ P → P < I → h'.get? P = some { cls := .type "tuple", data := .seq items } →
          h'.get? I = some { cls := .type "itertools.combinations", data := .fields (cmbF P 0 .none items.size) } → R (.ok (.ret (.ref I))) { s with heap := h' }) :=
  .of_wp fun prog w A R s h => by
    obtain ⟨hl, h⟩ := h
    have hsub := sub_cmb
    unfold Builtin.«itertools.combinations.__new__»
    refine wpAny_bind ?_
    show wpAny _ _ (Builtin.Itertools.itClassAndRest "combinations" _ >>= _) _ _ _
    refine wpAny_bind ?_
    unfold Builtin.Itertools.itClassAndRest
    repeat (first
      | wp_step
      | simp only [List.head?_cons, Option.some_or, List.getElem?_cons_succ, List.getElem?_cons_zero, List.length_cons, List.length_nil, List.forIn_nil])
    rw [nmC, hsub]
    refine wpAny_pure ?_
    simp only [Bool.not_true, Bool.false_eq_true, if_false]
    refine wpAny_pure ?_
    refine wpAny_bind ?_
    dsimp only
    rw [bind2]
    refine wpAny_pure ?_
    dsimp only
    refine wpAny_bind ?_
    unfold Builtin.Itertools.itSsizeArg
    repeat (first
      | wp_step
      | simp only [List.head?_cons, Option.some_or, List.getElem?_cons_succ, List.getElem?_cons_zero, List.length_cons, List.length_nil, List.forIn_nil])
    rw [if_neg (by
      rw [Bool.or_eq_true, decide_eq_true_eq, decide_eq_true_eq]
      omega)]
    refine wpAny_pure ?_
    refine wpAny_bind (PyProof.Rows.collect_list (vs := items.toList) (by rw [Array.toArray_toList]; exact hl) ?_ (by rw [Array.length_toList, sizeLine_eq]; omega))
    rw [if_neg (by omega), if_neg (by
      unfold Builtin.Itertools.itTooMany
      rw [decide_eq_true_eq]
      omega)]
    refine wpAny_bind (wpAny_newTuple ?_ (by rw [Array.length_toList, sizeLine_eq]; omega))
    refine wpAny_pure ?_
    refine wpAny_bind ?_
    have k1 : ∀ b o', s.heap.get? b = some o' → ((s.heap.push (PyProof.Rows.seqObj "list" #[] 0)).update s.heap.objs.size (Obj.mapSeq (· ++ items.toList.toArray))).get? b = some o' := fun b o' hb =>
      (Heap.get?_update_other _ _ (Nat.ne_of_gt (Heap.lt_size hb))).trans (Heap.get?_push_of_some _ hb)
    have z1 : ((s.heap.push (PyProof.Rows.seqObj "list" #[] 0)).update s.heap.objs.size (Obj.mapSeq (· ++ items.toList.toArray))).objs.size = s.heap.objs.size + 1 := by rw [Heap.size_update, Heap.size_push]
    generalize ((s.heap.push (PyProof.Rows.seqObj "list" #[] 0)).update s.heap.objs.size (Obj.mapSeq (· ++ items.toList.toArray))) = h1 at k1 z1 ⊢
    show wpAny _ _ (Builtin.Itertools.itNewRecord (.type "itertools.combinations") ([.ref h1.objs.size, rawInt (if ((items.size : Nat) : Int).toNat > items.toList.length then 2 else 0), Value.none] ++ List.map (fun (i : Nat) => rawInt ↑i) (List.range ((items.size : Nat) : Int).toNat))) _ _ _
    unfold Builtin.Itertools.itNewRecord
    rw [noDict_cmb]
    simp only [Bool.not_false, if_true, Int.toNat_natCast, Array.length_toList, gt_iff_lt, Nat.lt_irrefl, if_false]
    refine wpAny_newObj_type ?_ (by
      show Array.size _ ≤ sizeLine + 2
      rw [List.size_toArray, List.length_append, List.length_map, List.length_range, sizeLine_eq]
      show 3 + _ ≤ _
      omega)
    refine wpAny_pure ⟨_, rfl, h _ h1.objs.size _ (fun b o' hb => Heap.get?_push_of_some _ (Heap.get?_push_of_some _ (k1 b o' hb))) (by rw [z1]; omega) (by
      show h1.objs.size < (h1.push _).objs.size
      rw [Heap.size_push]
      omega) ?_ (Heap.get?_push_size _ rfl)⟩
    refine Heap.get?_push_of_some _ ?_
    have := Heap.get?_push_size h1 (o := { cls := .type "tuple", data := .seq items.toList.toArray }) rfl
    rw [Array.toArray_toList] at this
    exact this
section
variable {prog : Program} {w : World} {A : Around} {E : Value → Shared → Prop} {s : Shared}
theorem call_cmb {l : Addr} {items : Array Value} {t : Tok} {Q : Value → Shared → Prop} (hn : items.size ≤ 3) (hl : s.heap.IsList l items)
    (h : ∀ h' P I, (∀ b o', s.heap.get? b = some o' → h'.get? b = some o') → s.heap.objs.size ≤ P → P < I → h'.get? P = some { cls := .type "tuple", data := .seq items } →
      h'.get? I = some { cls := .type "itertools.combinations", data := .fields (cmbF P 0 .none items.size) } → Q (.ref I) { s with heap := h' }) :
    wpAny (model prog w) A (call (.type "itertools.combinations") [.ref l, .int (items.size : Nat) t]) Q E s := by
  refine callType_new called_cmb (by decide +kernel) (typeCall_cmb_2 _ _) (newCall_cmb_2 _ _) (fun obj => F.args_object_init_3 obj _ _) entry_cmb_new (meets_cmb_new l items t hn) ?_
  exact ⟨hl, fun h' P I k hP hI q1 q2 => ⟨⟨_, q2, rfl⟩, h h' P I k hP hI q1 q2⟩⟩
theorem iter_cmb {it P : Addr} {st : Int} {v : Value} {r : Nat} {Q : Value → Shared → Prop} (hit : s.heap.get? it = some { cls := .type "itertools.combinations", data := .fields (cmbF P st v r) }) (h : Q (.ref it) s) : wpAny (model prog w) A (pyIter (.ref it)) Q E s := by
  have hT : s.TypeIs (.ref it) "itertools.combinations" := ⟨_, hit, rfl⟩
  refine wpAny_pyIter_slot hT slot_cmb_iter (wpAny_call_entry slot_cmb_iter hT entry_cmb_iter ?_ (args_cmb_iter _))
  show wpAny _ _ (ret (.ref it)) _ _ s
  exact wpAny_pure ⟨_, rfl, "itertools.combinations", _, hT, slot_cmb_next.lookup, h⟩
end
end CuCmb
set_option Elab.async false
set_option linter.all false
set_option maxRecDepth 100000
set_option maxHeartbeats 2000000
namespace CuCmb
open PySem PySem.Spec
open Sem (wp)
theorem cmb_nums (P : Addr) (st : Int) (v : Value) (r : Nat) : ((cmbF P st v r).toList.drop 3).map (fun | .int n _ => n.toNat | _ => 0) = List.range r := by
  unfold cmbF
  rw [List.toList_toArray, show ([Value.ref P, rawInt st, v] ++ List.map (fun i => rawInt ((i : Nat) : Int)) (List.range r)).drop 3 = List.map (fun i => rawInt ((i : Nat) : Int)) (List.range r) from rfl, List.map_map]
  exact List.map_id'' (fun i => Int.toNat_natCast i) _
theorem cmb_set1 (P : Addr) (st st' : Int) (v : Value) (r : Nat) : (cmbF P st v r).setIfInBounds 1 (rawInt st') = cmbF P st' v r := by
  unfold cmbF
  simp
theorem cmb_set2 (P : Addr) (st : Int) (v v' : Value) (r : Nat) : (cmbF P st v r).setIfInBounds 2 v' = cmbF P st v' r := by
  unfold cmbF
  simp
section
variable {prog : Program} {w : World} {A : Around} {E : Value → Shared → Prop} {s : Shared}
abbrev IsCmb (h : Heap) (it P : Addr) (st : Int) (v : Value) (r : Nat) : Prop := h.get? it = some { cls := .type "itertools.combinations", dict := none, data := .fields (cmbF P st v r), slots := #[] }
theorem wpAny_nums {it P : Addr} {st : Int} {v : Value} {r : Nat} {Q : List Nat → Shared → Prop} (hit : IsCmb s.heap it P st v r) (h : Q (List.range r) s) : wpAny (model prog w) A (Builtin.Itertools.itNumbersFrom (.ref it) 3) Q E s := by
  unfold Builtin.Itertools.itNumbersFrom
  refine wpAny_bind (wpAny_load hit ?_)
  refine wpAny_pure ?_
  have e := cmb_nums P st v r
  rw [← e] at h
  exact h
theorem cmb_first {it P : Addr} {items : Array Value} {Q : Option Value → Shared → Prop} (hit : IsCmb s.heap it P 0 .none items.size) (hP : s.heap.get? P = some { cls := .type "tuple", data := .seq items }) (hne : it ≠ P) (hn : items.size ≤ 3)
    (hQ : ∀ h' T, IsCmb h' it P 1 (.ref T) items.size → T = s.heap.objs.size → h'.get? T = some { cls := .type "tuple", data := .seq items } → h'.objs.size = s.heap.objs.size + 1 → (∀ b o, b ≠ it → s.heap.get? b = some o → h'.get? b = some o) → Q (some (.ref T)) { s with heap := h' }) :
    wpAny (model prog w) A (pyNext (.ref it)) Q E s := by
  have hT : s.TypeIs (.ref it) "itertools.combinations" := ⟨_, hit, rfl⟩
  unfold pyNext
  refine wpAny_bind (wpAny_attempt (wpAny_callSpecial?_slot (name := Str.ofString "__next__") hT slot_cmb_next (wpAny_call_entry slot_cmb_next hT entry_cmb_next ?_ (args_cmb_next _))))
  show wpAny _ _ (field (.ref it) 0 >>= _) _ _ s
  refine wpAny_bind (wpAny_field hit rfl (x := .ref P) (by simp) ?_)
  refine wpAny_bind (wpAny_nums hit ?_)
  refine wpAny_bind (m := Builtin.Itertools.itIntField (.ref it) 1) ?_
  refine wpAny_bind (wpAny_field hit rfl (x := rawInt 0) (by simp) (wpAny_pure ?_))
  show wpAny _ _ (setField (.ref it) 1 (rawInt 1) >>= _) _ _ s
  refine wpAny_bind (wpAny_setField_rec hit (by simp) fun h1 hit1 sb1 => ?_)
  show wpAny _ _ ((Builtin.Itertools.itPoolItems (.ref P) >>= _) >>= _) _ _ _
  have hP1 := sb1.extBut P _ (Ne.symm hne) hP
  refine wpAny_bind (wpAny_bind (wpAny_bind (wpAny_seqItems hP1 rfl (wpAny_pure ?_))))
  have e1 : (List.range items.size).map (fun i => items.getD i .none) = items.toList := by
    apply List.ext_getElem?
    intro i
    rw [List.getElem?_map]
    by_cases hi : i < items.size
    · rw [List.getElem?_range hi]
      simp [hi]
    · simp [hi]
  rw [e1]
  refine wpAny_newTuple ?_ (by rw [Array.length_toList, sizeLine_eq]; omega)
  have hit2 : (h1.push { cls := .type "tuple", data := .seq items.toList.toArray }).get? it = some { cls := .type "itertools.combinations", dict := none, data := .fields (cmbF P 1 .none items.size), slots := #[] } := by
    rw [← cmb_set1 P 0 1 .none items.size]
    exact Heap.get?_push_of_some _ hit1
  refine wpAny_bind (wpAny_field hit2 rfl (x := .none) (by simp) ?_)
  refine wpAny_bind (wpAny_setField_rec hit2 (by simp) fun h3 hit3 sb3 => ?_)
  refine wpAny_bind (wpAny_letGo (wpAny_pure ⟨_, rfl, wpAny_pure ?_⟩))
  rw [cmb_set2] at hit3
  have z1 : h1.objs.size = s.heap.objs.size := sb1.1
  have hlt : it < s.heap.objs.size := Heap.lt_size hit
  refine hQ h3 _ hit3 z1 ?_ (by rw [sb3.1]; show (h1.push _).objs.size = _; rw [Heap.size_push, z1]) fun b o hb ho => ?_
  · refine sb3.extBut _ _ (by show h1.objs.size ≠ it; rw [z1]; exact Nat.ne_of_gt hlt) ?_
    have := Heap.get?_push_size h1 (o := { cls := .type "tuple", data := .seq items.toList.toArray }) rfl
    rw [Array.toArray_toList] at this
    rw [Array.toArray_toList]
    exact this
  · exact sb3.extBut b o hb (Heap.get?_push_of_some _ (sb1.extBut b o hb ho))
theorem cmb_end {it P : Addr} {v : Value} {items : Array Value} {Q : Option Value → Shared → Prop} (hh : A.handled = none) (hit : IsCmb s.heap it P 1 v items.size) (hP : s.heap.get? P = some { cls := .type "tuple", data := .seq items }) (hne : it ≠ P) (hn : items.size = 2 ∨ items.size = 3)
    (hQ : ∀ h', Heap.ExtBut it s.heap h' → Q none { s with heap := h' }) : wpAny (model prog w) A (pyNext (.ref it)) Q E s := by
  have hT : s.TypeIs (.ref it) "itertools.combinations" := ⟨_, hit, rfl⟩
  unfold pyNext
  refine wpAny_bind (wpAny_attempt (wpAny_callSpecial?_slot (name := Str.ofString "__next__") hT slot_cmb_next (wpAny_call_entry slot_cmb_next hT entry_cmb_next ?_ (args_cmb_next _))))
  show wpAny _ _ (field (.ref it) 0 >>= _) _ _ s
  refine wpAny_bind (wpAny_field hit rfl (x := .ref P) (by simp) ?_)
  refine wpAny_bind (wpAny_nums hit ?_)
  refine wpAny_bind (m := Builtin.Itertools.itIntField (.ref it) 1) ?_
  refine wpAny_bind (wpAny_field hit rfl (x := rawInt 1) (by simp) (wpAny_pure ?_))
  show wpAny _ _ (Builtin.Itertools.itPoolItems (.ref P) >>= _) _ _ s
  refine wpAny_bind (wpAny_bind (wpAny_seqItems hP rfl (wpAny_pure ?_)))
  have go : wpAny (model prog w) A.in1 (setField (.ref it) 1 (rawInt 2) >>= fun _ => Builtin.Itertools.itStop) (fun fin s' => ∃ v, fin = Fin.done (Flow.ret v) ∧ wpAny (model prog w) A
            (match Except.ok (some v) with
            | Except.ok (some v) => pure (some v)
            | Except.ok none => unsupported "iter:the-iterator's-class-has-lost-its-__next__-amid-the-walk"
            | Except.error e => do
              let __do_lift ← isInstance e (Value.type "StopIteration")
              if __do_lift = true then pure none else throw e)
            Q E s')
    (fun e s' =>
      wpAny (model prog w) A
        (match Except.error e with
        | Except.ok (some v) => pure (some v)
        | Except.ok none => unsupported "iter:the-iterator's-class-has-lost-its-__next__-amid-the-walk"
        | Except.error e => do
          let __do_lift ← isInstance e (Value.type "StopIteration")
          if __do_lift = true then pure none else throw e)
        Q E s') s := by
    refine wpAny_bind (wpAny_setField_rec hit (by simp) fun h1 hit1 sb1 => ?_)
    show wpAny _ _ (newExc (.type "StopIteration") [] >>= _) _ _ _
    refine wpAny_bind ?_
    simp only [newExc, newTuple]
    refine wpAny_bind (wpAny_newObj_type ?_ (by size_fits))
    refine wpAny_bind (m := firstArgMember _ _) (wpAny_of_eq (a := Value.none) (by first | rfl | (simp only [firstArgMember]; rfl)) ?_)
    refine wpAny_newObj_type ?_ (by size_fits)
    simp only [raiseNew]
    refine wpAny_bind (wpAny_handled ?_)
    first | rw [show A.in1.handled = none from hh] | rw [hh]
    refine wpAny_bind (wpAny_pure (wpAny_throw ?_))
    refine wpAny_bind (wpAny_isInstance (T := "StopIteration") (b := true) ⟨_, Heap.get?_push_size _ rfl, rfl⟩ isSubtype_stop ?_)
    exact wpAny_pure (hQ _ ((sb1.extBut.push _).push _))
  rcases hn with hn | hn
  · rw [hn]
    exact go
  · rw [hn]
    exact go
end
end CuCmb
set_option Elab.async false
set_option linter.all false
set_option maxRecDepth 100000
set_option maxHeartbeats 2000000
/-! for .. in combinations(xs, len(xs)) -/
namespace Cu
open PySem PySem.Spec PyProof.Rows L2

/-- one new tuple of the list's items -/
def Itcm (xs : List V) : It := ⟨fun i H => i = 0, fun i H v H' => ∃ T, v = .ref T ∧ H T = none ∧ H' = upd H T (.tup xs), fun i H => 1 ≤ i⟩
def CmbAt (it P : Addr) (items : Array Value) (i : Nat) (h : Heap) : Prop :=
  ((i = 0 ∧ CuCmb.IsCmb h it P 0 .none items.size) ∨ (1 ≤ i ∧ ∃ v, CuCmb.IsCmb h it P 1 v items.size)) ∧ h.get? P = some { cls := .type "tuple", data := .seq items }
theorem turn_cmb {P : Program} {w : World} {K : PySem.W.Frag} {tg : Expr} {it pl : Addr} {items : Array Value} {xs : List V} (hne : it ≠ pl) (hv : Vals xs items.toList) (hn : items.size = 2 ∨ items.size = 3) :
    Turn P w K tg (Itcm xs) [it, pl] it (CmbAt it pl items) where
  mem := by simp
  obj := fun i h st b hb => by
    obtain ⟨h1, h2⟩ := st
    have e' : b = it ∨ b = pl := by simpa using hb
    rcases e' with z | z
    · rw [z]
      rcases h1 with ⟨_, h1⟩ | ⟨_, v, h1⟩
      · exact ⟨_, h1, fun v q => by
          have z' : Data.fields _ = Data.cell v := q
          cases z'⟩
      · exact ⟨_, h1, fun v q => by
          have z' : Data.fields _ = Data.cell v := q
          cases z'⟩
    · rw [z]
      exact ⟨_, h2, fun v q => by
        have z' : Data.seq _ _ = Data.cell v := q
        cases z'⟩
  keep := fun i h h' st k => by
    obtain ⟨h1, h2⟩ := st
    refine ⟨?_, k pl (by simp) _ h2⟩
    rcases h1 with ⟨h0, h1⟩ | ⟨h0, v, h1⟩
    · exact .inl ⟨h0, k it (by simp) _ h1⟩
    · exact .inr ⟨h0, v, k it (by simp) _ h1⟩
  item := by
    intro X hP hw hK hc i pins s σ H E I hf st hg
    subst hP hw hK
    have hi : i = 0 := hg
    subst hi
    obtain ⟨h1, h2⟩ := st
    rcases h1 with ⟨_, h1⟩ | ⟨z, _⟩
    · refine CuCmb.cmb_first h1 h2 hne (by omega) fun h' T hit eT hT hz k => ?_
      refine ⟨_, rfl, go_of hit rfl rfl (by decide +kernel) ?_⟩
      subst eT
      have new : ObjOk X.prog X.w (upd H s.heap.objs.size (.tup xs)) h' s.heap.objs.size (.tup xs) :=
        ⟨by rw [hv.length, Array.length_toList, sizeLine_eq]; omega, items.toList, hv, ⟨_, hT, rfl, _, by rw [Array.toArray_toList]⟩⟩
      have I1 : Inv X pins σ (upd H s.heap.objs.size (.tup xs)) { s with heap := h' } :=
        I.turnedNew (t' := s.toks) (ch := [it]) (fun b ob hb q => k b ob (fun z => hb (by simp [z])) q) (fun b hb => hf b (by
          have : b = it := by simpa using hb
          rw [this]
          simp)) (Nat.le_refl _) new
      have hil : it < s.heap.objs.size := Heap.lt_size h1
      have hpl : pl < s.heap.objs.size := Heap.lt_size h2
      refine ⟨.ref s.heap.objs.size, _, I1, rfl, ⟨_, rfl, I.hok.fresh (Nat.le_refl _), rfl⟩, ⟨.inr ⟨Nat.le_refl _, _, hit⟩, k pl _ (Ne.symm hne) h2⟩, fun b hb => ?_⟩
      have hb' : b < s.heap.objs.size := by
        have e' : b = it ∨ b = pl := by simpa using hb
        rcases e' with z | z
        · rw [z]; exact hil
        · rw [z]; exact hpl
      rw [upd_ne (Nat.ne_of_lt hb')]
      exact (hf b hb).1
    · omega
  done := by
    intro X hP hw hK hc i pins s σ H E I hf st hg
    subst hP hw hK
    have hi : 1 ≤ i := hg
    obtain ⟨h1, h2⟩ := st
    rcases h1 with ⟨z, _⟩ | ⟨_, v, h1⟩
    · omega
    · obtain ⟨f0, f1, f2, f3, f4, f5⟩ := hf it (by simp)
      exact CuCmb.cmb_end (I.ok.hd hc) h1 h2 hne hn fun h' eb => ⟨rfl, I.turned (t' := s.toks) (fun b o hb q => eb b o hb q) f0 f1 f3 f4 f5⟩
  self := fun A i s Q E st h => by
    obtain ⟨h1, _⟩ := st
    rcases h1 with ⟨_, h1⟩ | ⟨_, v, h1⟩
    · exact CuCmb.iter_cmb h1 h
    · exact CuCmb.iter_cmb h1 h
def iCmb (K : PySem.W.Frag) (ta : TA) : TI := fun σ H R => ta σ H fun vs H1 => ∃ l xs, vs = [.ref l, .int (xs.length : Nat)] ∧ SqL K H1 l xs ∧ (xs.length = 2 ∨ xs.length = 3) ∧ R (Itcm xs) H1
theorem pi_cmb {X : Cx} {tg e e2 : Expr} {ta : TA} {p pos : Pos} {x : Str} (hm : X.mg x = some (.type "itertools.combinations")) (hg : Gl X x) (ha : PA X [e, e2] ta) (hdb : (x == ("__debug__" : Str)) = false := by decide)
    (hs : starEach [e, e2] X.env = (false, eval e X.env) :: starEach [e2] X.env := by rfl) (hpl : (backTo pos (starEach [e2] X.env)).any (·.1) = false := by rfl) :
    PI X tg (.Call (.Name x p) [e, e2] [] pos) (iCmb X.K ta) := by
  refine ⟨fun pins s σ H R I h => ?_⟩
  refine Call_ (ld_glob I hg hm (PyProof.Rows.callWith_type1 (thn (ha.run pos pins s σ H _ I h) fun us s1 ⟨vs, H1, I1, r1, q1⟩ => ?_) hs hpl) hdb)
  obtain ⟨l, xs, ex, hq, hn, q⟩ := q1
  subst ex
  cases r1 with
  | cons r rr =>
    cases rr with
    | cons r' rr =>
      cases rr
      cases r
      obtain ⟨t, rfl⟩ := r'
      obtain ⟨its, rv, p', hz⟩ := I1.list hq
      have hl : xs.length = its.toArray.size := by rw [List.size_toArray, rv.length]
      rw [hl]
      refine CuCmb.call_cmb (by omega) p'.isList fun h' P it k hP hI q1 q2 => CuCmb.iter_cmb q2 ?_
      have I2 : Inv X pins σ H1 { s1 with heap := h' } := I1.kept (t' := s1.toks) k
      refine ⟨it, [it, P], _, _, H1, rfl, I2, turn_cmb (items := its.toArray) (xs := xs) (Nat.ne_of_gt hI) rv (by omega), ⟨.inl ⟨rfl, q2⟩, q1⟩, fun b hb => ?_, q⟩
      have e' : b = it ∨ b = P := by simpa using hb
      have hle : s1.heap.objs.size ≤ b := by
        rcases e' with z | z
        · rw [z]; exact Nat.le_of_lt (Nat.lt_of_le_of_lt hP hI)
        · rw [z]; exact hP
      exact I1.fpOk hle (I1.hok.fresh hle)
end Cu
set_option Elab.async false
set_option linter.all false
set_option maxRecDepth 100000
set_option maxHeartbeats 2000000
/-! sorted of a list of balls that is sorted already: a copy -/
namespace Cu
open PySem PySem.Spec PyProof.Rows L2

def sh6 (i : Nat) : Bool := i == 0
/-- a tuple that begins with a text of the one sign c, ints behind -/
def Ball6 (h : Heap) (v : Value) (c : Nat) : Prop := ∃ a o x t n1 n2 n3 n4 n5 t1 t2 t3 t4 t5 m, v = .ref a ∧ h.get? a = some o ∧ o.cls = .type "tuple" ∧ o.data = .seq #[.str x t, .int n1 t1, .int n2 t2, .int n3 t3, .int n4 t4, .int n5 t5] m ∧ x.cps.toList = [c]
theorem Ball6.key {h : Heap} {v : Value} {c : Nat} (b : Ball6 h v c) : ∃ r, G.tupKeyC h sh6 v = some (Sum.inr [c] :: r) := by
  obtain ⟨a, o, x, t, n1, n2, n3, n4, n5, t1, t2, t3, t4, t5, m, rfl, ho, hc, hd, hx⟩ := b
  refine ⟨[Sum.inl n1, Sum.inl n2, Sum.inl n3, Sum.inl n4, Sum.inl n5], ?_⟩
  unfold G.tupKeyC
  rw [if_pos (by
    unfold G.isTupObj
    simp only [ho, hc]
    decide)]
  unfold tupKey
  simp only [ho, hd]
  rw [← hx]
  rfl
theorem kle_code {c d : Nat} {r q : List (Int ⊕ List Nat)} (h : (listOrd itemOrd).kle (Sum.inr [c] :: r) (Sum.inr [d] :: q)) : c ≤ d := by
  have h' : lexLt itemOrd (Sum.inr [d] :: q) (Sum.inr [c] :: r) = false := h
  rw [lex_cons, Bool.or_eq_false_iff] at h'
  have h1 : decide ([d] < [c]) = false := h'.1
  have h2 := of_decide_eq_false h1
  by_cases z : c ≤ d
  · exact z
  · exact absurd (List.Lex.rel (by omega)) h2
theorem tups6 {h : Heap} {cz : Value → Nat} : ∀ {vs : List Value}, (∀ v ∈ vs, Ball6 h v (cz v)) → ∃ fs, TupsOf h sh6 vs fs
  | [], _ => ⟨[], .nil⟩
  | v :: vs, hb => by
    obtain ⟨fs, hf⟩ := tups6 (vs := vs) fun u hu => hb u (List.mem_cons_of_mem _ hu)
    obtain ⟨a, o, x, t, n1, n2, n3, n4, n5, t1, t2, t3, t4, t5, m, e, ho, hc, hd, hx⟩ := hb v List.mem_cons_self
    exact ⟨_, .cons ⟨a, o, _, m, e, ho, hc, hd, rfl, (fun z => absurd z (by decide)), fun _ => ⟨x, t, rfl⟩⟩ hf⟩
theorem sorted_out {h : Heap} {cz : Value → Nat} {vs : List Value} {arr : Array Keyed} (hb : ∀ v ∈ vs, Ball6 h v (cz v)) (hs : vs.Pairwise fun u v => cz u < cz v) (hp : arr.Perm (pairsOf vs)) (hk : SortedToK (G.tupKindC h sh6) arr (pairsOf vs).size) :
    arr.map (·.2) = vs.toArray := by
  have hl : arr.toList.Perm (vs.zip vs) := by
    rw [← pairsOf_toList]
    exact Array.perm_iff_toList_perm.mp hp
  have hm : ∀ p ∈ arr.toList, p.1 = p.2 ∧ p.1 ∈ vs := fun p hp => mem_zip_self (hl.mem_iff.mp hp)
  have hz : arr.size = (pairsOf vs).size := hp.size_eq
  have inj : ∀ u ∈ vs, ∀ v ∈ vs, cz u ≤ cz v → cz v ≤ cz u → u = v := by
    intro u hu v hv h1 h2
    obtain ⟨i, hi, ei⟩ := List.getElem_of_mem hu
    obtain ⟨j, hj, ej⟩ := List.getElem_of_mem hv
    have w := List.pairwise_iff_getElem.mp hs
    rcases Nat.lt_trichotomy i j with q | q | q
    · have := w i j hi hj q
      rw [ei, ej] at this
      omega
    · subst q
      rw [← ei, ← ej]
    · have := w j i hj hi q
      rw [ei, ej] at this
      omega
  have key : ((arr.map (·.2)).toList) = vs := by
    refine List.Perm.eq_of_pairwise (le := fun u v => cz u ≤ cz v) (fun u v hu hv h1 h2 => ?_) ?_ (hs.imp fun h => Nat.le_of_lt h) (Srt.out_perm hp)
    · exact inj u ((Srt.out_perm hp).mem_iff.mp hu) v hv h1 h2
    · rw [List.pairwise_iff_getElem]
      intro i j hi hj hij
      have hi' : i < arr.size := by simpa using hi
      have hj' : j < arr.size := by simpa using hj
      have mi := hm arr[i] (Array.getElem_mem_toList hi')
      have mj := hm arr[j] (Array.getElem_mem_toList hj')
      have q := hk i j (Nat.le_of_lt hij) (by omega)
      obtain ⟨ri, ki⟩ := (hb _ mi.2).key
      obtain ⟨rj, kj⟩ := (hb _ mj.2).key
      have e1 : KK (G.tupKindC h sh6) arr i = Sum.inr [cz arr[i].1] :: ri := by
        unfold KK
        rw [Array.getElem?_eq_getElem hi']
        show (G.tupKeyC h sh6 arr[i].1).getD [] = _
        rw [ki]
        rfl
      have e2 : KK (G.tupKindC h sh6) arr j = Sum.inr [cz arr[j].1] :: rj := by
        unfold KK
        rw [Array.getElem?_eq_getElem hj']
        show (G.tupKeyC h sh6 arr[j].1).getD [] = _
        rw [kj]
        rfl
      rw [e1, e2] at q
      have q' := kle_code q
      rw [mi.1, mj.1] at q'
      simpa using q'
  rw [← key]
section
variable {prog : Program} {w : World} {A : Around} {E : Value → Shared → Prop} {s : Shared}
theorem sorted_same {l : Addr} {vs : List Value} {cz : Value → Nat} {Q : Value → Shared → Prop} (hl : s.heap.IsList l vs.toArray) (hz : vs.length ≤ sizeLine) (hb : ∀ v ∈ vs, Ball6 s.heap v (cz v)) (hs : vs.Pairwise fun u v => cz u < cz v)
    (h : ∀ (h' : Heap) (d : Addr), (∀ b o, s.heap.get? b = some o → h'.get? b = some o) → s.heap.objs.size ≤ d → (∃ n, h'.get? d = some (seqObj "list" vs.toArray n)) → Q (.ref d) { s with heap := h' }) :
    wpAny (model prog w) A (call (.builtin "sorted") [.ref l]) Q E s := by
  obtain ⟨fs, ht⟩ := tups6 hb
  refine G.sorted_tups hl ht (fun v hv => (hb v hv).key.elim fun r e => ⟨_, e⟩) hz fun st' hp hk _ => ?_
  have e := sorted_out hb hs hp hk
  rw [e]
  exact h _ _ (fun b o e => sortedAll_old e) (Nat.le_succ _) (sortedAll_at s.heap vs vs.toArray)
end
/-- sorted(xs), xs balls in the order of their names -/
def rSort6 (K : PySem.W.Frag) : List V → Hp → VK → Prop := fun vs H Q => ∃ (a : Addr) (xs : List V) (cz : V → Nat), vs = [V.ref a] ∧ SqL K H a xs ∧ (∀ x ∈ xs, ∃ t n1 n2 n3 n4 n5, x = V.ref t ∧ H t = some (.tup [.str (sgn (cz x)), .int n1, .int n2, .int n3, .int n4, .int n5])) ∧
  (xs.Pairwise fun u v => cz u < cz v) ∧ ∀ p, H p = none → Q (.ref p) (upd H p (.lst xs))
section
variable {X : Cx} {e a : Expr} {ρ : Rho} {p pos : Pos}
theorem cr_sort6 : CallR X (.builtin "sorted") (rSort6 X.K) := by
  intro pins s σ H vs us Q I r h
  obtain ⟨a, xs, cz, rfl, hs, hx, hp, q⟩ := h
  obtain ⟨its, rv, hl, hz⟩ := I.list hs
  obtain ⟨u, rfl, ru⟩ := vals1 r
  obtain rfl : u = Value.ref a := ru
  obtain ⟨e1, e2⟩ := refs_back rv fun x m => by
    obtain ⟨t, _, _, _, _, _, e, _⟩ := hx x m
    exact ⟨t, e⟩
  refine sorted_same (cz := fun u => cz (backV u)) hl.isList (by rw [← rv.length]; exact hz) (fun v hv => ?_) ?_ fun h' d kp hd hn => ?_
  · obtain ⟨t, rfl⟩ := e2 v hv
    have hm : V.ref t ∈ xs := by rw [e1]; exact List.mem_map.mpr ⟨_, hv, rfl⟩
    obtain ⟨t', n1, n2, n3, n4, n5, e, ht⟩ := hx _ hm
    cases e
    obtain ⟨_, its2, r2, o, ho, hc, n, hd⟩ := I.hok _ _ ht
    cases r2 with
    | cons r0 r2 => cases r2 with
      | cons r1 r2 => cases r2 with
        | cons r2' r2 => cases r2 with
          | cons r3 r2 => cases r2 with
            | cons r4 r2 => cases r2 with
              | cons r5 r2 =>
                cases r2
                obtain ⟨t0, rfl⟩ := r0
                obtain ⟨t1, rfl⟩ := r1
                obtain ⟨t2, rfl⟩ := r2'
                obtain ⟨t3, rfl⟩ := r3
                obtain ⟨t4, rfl⟩ := r4
                obtain ⟨t5, rfl⟩ := r5
                exact ⟨t, o, _, _, _, _, _, _, _, _, _, _, _, _, n, rfl, ho, hc, hd, rfl⟩
  · rw [e1] at hp
    exact (List.pairwise_map (R := fun u v => cz u < cz v)).mp hp
  · obtain ⟨n, hn⟩ := hn
    refine ⟨.ref d, upd H d (.lst xs), I.laid (t' := s.toks) kp hd ⟨hz, its, n, rv, hn⟩, rfl, q d (I.hok.fresh hd)⟩
def czV (H : Hp) : V → Nat
  | .ref t => match H t with
    | some (.tup (.str x :: _)) => x.cps.toList.headD 0
    | _ => 0
  | _ => 0
theorem czV_of {H : Hp} {v : V} {b : Ball} {c : Nat} (h : Dr H v b.d) (hc : b.nm = sgn c) : czV H v = c ∧ ∃ t n1 n2 n3 n4 n5, v = V.ref t ∧ H t = some (.tup [.str (sgn c), .int n1, .int n2, .int n3, .int n4, .int n5]) := by
  obtain ⟨t, xs, rfl, hl, q⟩ := Dr.ofT h
  cases q with
  | cons q1 q => cases q with
    | cons q2 q => cases q with
      | cons q3 q => cases q with
        | cons q4 q => cases q with
          | cons q5 q => cases q with
            | cons q6 q =>
              cases q
              obtain rfl := q1.ofS
              obtain rfl := q2.ofI
              obtain rfl := q3.ofI
              obtain rfl := q4.ofI
              obtain rfl := q5.ofI
              obtain rfl := q6.ofI
              rw [hc] at hl
              refine ⟨?_, t, _, _, _, _, _, rfl, hl⟩
              unfold czV
              simp only [hl]
              rfl
theorem czV_all {H : Hp} {cz : Ball → Nat} : ∀ {bs : List Ball} {xs : List V}, DrA H xs (bs.map Ball.d) → ∀ x ∈ xs, ∃ b ∈ bs, Dr H x b.d
  | [], _, .nil, x, hx => by cases hx
  | b :: bs, _, .cons h q, x, hx => by
    rcases List.mem_cons.mp hx with rfl | hx
    · exact ⟨b, List.mem_cons_self, h⟩
    · obtain ⟨b', hb', r⟩ := czV_all (cz := cz) q x hx
      exact ⟨b', List.mem_cons_of_mem _ hb', r⟩
theorem czV_pw {H : Hp} {cz : Ball → Nat} : ∀ {bs : List Ball} {xs : List V}, DrA H xs (bs.map Ball.d) → (∀ b ∈ bs, b.nm = sgn (cz b)) → (bs.Pairwise fun u v => cz u < cz v) → xs.Pairwise fun u v => czV H u < czV H v
  | [], _, .nil, _, _ => .nil
  | b :: bs, _, .cons h q, hc, hp => by
    rw [List.pairwise_cons] at hp ⊢
    refine ⟨fun x hx => ?_, czV_pw q (fun b hb => hc b (List.mem_cons_of_mem _ hb)) hp.2⟩
    obtain ⟨b', hb', r⟩ := czV_all (cz := cz) q x hx
    rw [(czV_of h (hc b List.mem_cons_self)).1, (czV_of r (hc b' (List.mem_cons_of_mem _ hb'))).1]
    exact hp.1 b' hb'
/-- balls, by the sign of their name -/
theorem ev_sort6 {bs : List Ball} {cz : Ball → Nat} (hm : X.mg "sorted" = none) (ha : Ev X a ρ (pL (bs.map Ball.d))) (hc : ∀ b ∈ bs, b.nm = sgn (cz b)) (hp : bs.Pairwise fun u v => cz u < cz v) (hg : Gl X "sorted" := by rfl)
    (he : starEach [a] X.env = (false, eval a X.env) :: starEach [] X.env := by rfl) : Ev X (.Call (.Name "sorted" p) [a] [] pos) ρ (pL (bs.map Ball.d)) :=
  ev_cB cr_sort6 hm (by decide +kernel) (eva_cons ha eva_nil he) (fun H vs Q q k => by
    obtain ⟨v, rfl, r⟩ := ps1 q
    obtain ⟨l, xs, rfl, hl, q2⟩ := r.ofL
    refine ⟨l, xs, czV H, rfl, SqL.of hl, fun x hx => ?_, czV_pw q2 hc hp, fun m hm' => k _ _ (same_new hm') (.lst upd_same (q2.mono (same_new hm')))⟩
    obtain ⟨b, hb, r'⟩ := czV_all (cz := cz) q2 x hx
    obtain ⟨e1, t, n1, n2, n3, n4, n5, e2, e3⟩ := czV_of r' (hc b hb)
    rw [e1]
    exact ⟨t, n1, n2, n3, n4, n5, e2, e3⟩) hg (by decide) (by decide) he rfl
end
end Cu
set_option Elab.async false
set_option linter.all false
set_option maxRecDepth 100000
set_option maxHeartbeats 2000000
namespace Cu
open PySem PySem.Spec PyProof.Rows L2

section
variable {X : Cx} {D : Addr} {e a b c tg : Expr} {ρ ρ' ρt : Rho} {P : Pd} {pos p fpos : Pos} {x : Str} {sts : List Stmt} {is : List Nat}
/-- for i in range(n, 0, -1): the first turn returns -/
theorem sv_forDown {n : Nat} (hp : PassesOwn (model X.prog X.w) X.A X.env X.xe) (hm : X.mg "range" = none) (ha : Ev X a ρ (pI (n : Nat))) (hb : Ev X b ρ (pI 0)) (hc : Ev X c ρ (pI (-1))) (h1 : 1 ≤ n) (h2 : n ≤ 1000)
    (hg : Tg X tg (pI (n : Nat)) ρ ρt is) (hbd : Svs X sts ρt (.rt P)) (hcm : X.calm = true := by rfl) (hgl : Gl X "range" := by rfl)
    (hs : starEach [a, b, c] X.env = (false, eval a X.env) :: starEach [b, c] X.env := by rfl) (hs2 : starEach [b, c] X.env = (false, eval b X.env) :: starEach [c] X.env := by rfl) (hs3 : starEach [c] X.env = (false, eval c X.env) :: starEach [] X.env := by rfl)
    (hpl : (backTo pos (starEach [b, c] X.env)).any (·.1) = false := by rfl) : Sv X (.For tg (.Call (.Name "range" p) [a, b, c] [] pos) sts [] fpos) ρ (.rt P) := by
  refine ps_to (ps_for hp hcm (pi_range3 hgl hm (eva_cons ha (eva_cons hb (eva_cons hc eva_nil hs3) hs2) hs) hs hpl) hg hbd) fun E σ H ⟨st, k⟩ => ⟨st, fun vs H1 e1 q => ?_⟩
  refine ⟨(n : Nat), 0, -1, _, q.int3, RgC.neg (by omega) (by omega) (by omega) (by omega), ?_⟩
  refine ⟨fun i m σ' H' => i = 0 ∧ Same H1 H' ∧ StOk H' σ' ρ, ⟨0, rfl, Same.refl _, st.mono e1⟩, ?_⟩
  rintro i m σ' H' ⟨rfl, e, st'⟩
  refine .inr ⟨?_, fun _ _ => False, fun _ _ z => z.elim, fun v H2 hy => ?_⟩
  · show 0 < (((n : Nat) : Int) - 0).toNat
    omega
  · obtain ⟨rfl, rfl⟩ := hy
    refine ⟨?_, st', fun σ3 st3 _ => ⟨st3, fun u H3 e3 q3 => k u H3 (e1.trans (e.trans e3)) q3⟩⟩
    show Dr _ _ _
    have e4 : ((n : Nat) : Int) + ((0 : Nat) : Int) * -1 = (n : Nat) := by omega
    rw [e4]
    exact .int _
/-- for some in combinations(xs, len(xs)) -/
theorem evix_cmb {ds es' : List PyData} {n : Nat} {j : Nat} (hm : X.mg x = some (.type "itertools.combinations")) (ha : Ev X a ρ (pL ds)) (hb : Ev X b ρ (pI (n : Nat))) (hn : ds.length = n) (h23 : n = 2 ∨ n = 3) (hf : flatA ds = true) (hj : rat ρ j = some (pOwn D es')) (hg : Gl X x := by rfl) (hdb : (x == ("__debug__" : Str)) = false := by decide)
    (hs : starEach [a, b] X.env = (false, eval a X.env) :: starEach [b] X.env := by rfl) (hs2 : starEach [b] X.env = (false, eval b X.env) :: starEach [] X.env := by rfl) (hpl : (backTo pos (starEach [b] X.env)).any (·.1) = false := by rfl) :
    EvIx X D tg (.Call (.Name x p) [a, b] [] pos) ρ [.tuple ds] :=
  pi_to (pi_cmb hm hg (eva_cons ha (eva_cons hb eva_nil hs2) hs) hdb hs hpl) fun σ H R ⟨st, k⟩ => ⟨st, fun vs H1 e1 q => by
    cases q with
    | cons q1 q2 =>
      cases q2 with
      | cons q2 q3 =>
        cases q3
        obtain ⟨l, xs, rfl, hl, r⟩ := Dr.ofL q1
        obtain rfl := Dr.ofI q2
        have hlen : xs.length = n := r.length.trans hn
        obtain ⟨v, _, rfl, hD⟩ := (st.mono e1).get hj
        obtain ⟨D', ys, e3, hD, _⟩ := hD.ofL
        cases e3
        refine ⟨l, xs, by rw [hlen], SqL.of hl, by omega, k _ H1 e1 ⟨fun i H' e hi => ?_, fun i H' z H'' e hi h => ?_, fun H' e => Nat.le_refl 1⟩⟩
        · have hi' : i < 1 := hi
          show i = 0
          omega
        · have hi' : i < 1 := hi
          obtain rfl : i = 0 := by omega
          obtain ⟨T, rfl, hT, rfl⟩ := h
          exact ⟨same_new hT, _, rfl, .tup upd_same ((DrA.rob hD e hf r).mono (same_new hT))⟩⟩
end
theorem flat_balls (bs : List Ball) : flatA (bs.map Ball.d) = true := flatA_all fun d hd => by
  obtain ⟨b, _, rfl⟩ := List.mem_map.mp hd
  rfl
/-- what most_together answers -/
def mostD (w h : Int) (a : Ball) (r : List Ball) (t : Int) : PyData := .tuple [.tuple ((a :: r).map fun b => .str b.nm), .int t, pr2 (placeAt w h a t)]
section
variable {P : Program} {w : World} {K : PySem.W.Frag} {mg : Str → Option Value} {base : Heap} {C : Addr} {W Hh : Int}
theorem df_most (T : Txt K mg C) (a : Ball) (r : List Ball) (cz : Ball → Nat) (hcz : ∀ b ∈ a :: r, b.nm = sgn (cz b)) (hpw : (a :: r).Pairwise fun u v => cz u < cz v) (h1 : 1 ≤ r.length) (ok : Balls W Hh (a :: r)) (hw : 0 < W) (hw2 : W ≤ 10 ^ 30) (hh : 0 < Hh) (hh2 : Hh ≤ 10 ^ 30)
    (c : Int × Int) (rs : List (Int × Int)) (ht : tog W Hh a r = c :: rs) (hm : a.m ≤ c.1) :
    Dfn P w K mg base "most_together" 7 [tab C W Hh, pL ((a :: r).map Ball.d)] (dat (mostD W Hh a r c.1)) := by
  have hl : r.length ≤ 2 := by
    have := ok.2.2.2
    rw [List.length_cons] at this
    omega
  have hoa : OkBall W Hh a := ok.1 a List.mem_cons_self
  have fnm : flatA ((a :: r).map fun b => PyData.str b.nm) = true := flatA_all fun d hd => by
    obtain ⟨b, _, rfl⟩ := List.mem_map.mp hd
    rfl
  refine dfn_of T.most_together scMostTogether rfl (fun _ _ _ _ _ _ us hl => match us, hl with | [_, _], _ => rfl) fun f cdv A outer s' H E hr => ?_
  refine svs_cons (sv_drop (ev_call (df_checkCrowd T (a :: r) ok) (hr.mono (by decide)) (eva_cons (ev_var 0) (eva_cons (ev_var 1) eva_nil))))
    (svs_stop (sv_forDown (n := r.length + 1) PassesOwn.never T.zRange (ev_cast (ev_lenL T.zLen (ev_var 1)) (by rw [List.length_map, List.length_cons])) ev_int (ev_neg ev_int) (by omega) (by omega) (tg_name 2 scMostTogether.nd) ?_))
  refine pss_to (ps_newL (ρ := [some (tab C W Hh), some (pL ((a :: r).map Ball.d)), some (pI ((r.length + 1 : Nat) : Int)), none, none, none, none, none, none, none])
    (ρ0 := fun D => [some (tab C W Hh), some (offL D ((a :: r).map Ball.d)), some (pI ((r.length + 1 : Nat) : Int)), none, none, none, none, none, none, none])
    (ρ' := fun D => [some (tab C W Hh), some (offL D ((a :: r).map Ball.d)), some (pI ((r.length + 1 : Nat) : Int)), some (pOwn D []), none, none, none, none, none, none]) (Q := fun _ => dat (mostD W Hh a r c.1)) 3 scMostTogether.nd (fun D => ?_) (fun D => ⟨.same, .off, .same, trivial⟩)) fun E σ H ⟨st, k⟩ => ⟨st, fun D v H' _ e q => k v H' e q⟩
  refine sos_cons (so_for (ds := [.tuple ((a :: r).map Ball.d)]) PassesOwn.never (evix_cmb (j := 3) (n := r.length + 1) T.combi (ev_sort6 T.zSorted (ev_wk (ev_var 1) Wk.off) hcz hpw) (ev_var 2) (by rw [List.length_map, List.length_cons]) (by omega) (flat_balls _) rfl)
      (fun i => [some (tab C W Hh), some (offL D ((a :: r).map Ball.d)), some (pI ((r.length + 1 : Nat) : Int)), some (pOwn D (if i = 0 then [] else [.tuple [.int c.1, .tuple ((a :: r).map fun b => .str b.nm)]])), none, none, none, none, none, none])
      (fun i => [some (tab C W Hh), some (offL D ((a :: r).map Ball.d)), some (pI ((r.length + 1 : Nat) : Int)), some (pOwn D []), some (pT ((a :: r).map Ball.d)), none, none, none, none, none]) (fun _ => [4]) ⟨rfl, rfl, rfl, rfl, trivial⟩ (fun i d hd => ?_) (fun i d hd => ?_))
    (sos_wk (ρ' := [some (tab C W Hh), some (pL ((a :: r).map Ball.d)), some (pI ((r.length + 1 : Nat) : Int)), some (pL [.tuple [.int c.1, .tuple ((a :: r).map fun b => .str b.nm)]]), none, none, none, none, none, none]) (sos_of ?_) ⟨.same, Wk.off, .same, Wk.own, trivial⟩)
  · have hi : i = 0 ∧ d = .tuple ((a :: r).map Ball.d) := by
      cases i with
      | zero => exact ⟨rfl, (Option.some.inj hd).symm⟩
      | succ i => simp at hd
    obtain ⟨rfl, rfl⟩ := hi
    exact tg_name 4 scMostTogether.nd
  · have hi : i = 0 ∧ d = .tuple ((a :: r).map Ball.d) := by
      cases i with
      | zero => exact ⟨rfl, (Option.some.inj hd).symm⟩
      | succ i => simp at hd
    obtain ⟨rfl, rfl⟩ := hi
    refine sos_cons (so_of (sv_set 5 scMostTogether.nd (ev_call (df_tog T a r hl hw hw2 hh hh2) hr (eva_cons (ev_var 0) (eva_cons (ev_listT T.zList (ev_var 4)) eva_nil)))))
      (sos_one (so_if (evt_list (ev_var 5)) (fun _ => sos_weak_end (sos_one (so_app
        (ρ' := [some (tab C W Hh), some (offL D ((a :: r).map Ball.d)), some (pI ((r.length + 1 : Nat) : Int)), some (pOwn D [.tuple [.int c.1, .tuple ((a :: r).map fun b => .str b.nm)]]), some (pT ((a :: r).map Ball.d)), none, none, none, none, none])
        (d := .tuple [.int c.1, .tuple ((a :: r).map fun b => .str b.nm)]) (ev_var 3)
        (ev_tup (evd_cons (ev_ixT (d := .int c.1) (ev_ixL (d := pr2 c) (ev_var 5) ev_int (L2.atI_nat (j := 0) (by rw [ht]; rfl))) ev_int)
          (evd_cons (ev_tupleL T.zTuple (ev_cast (ev_lc (xs := a :: r) (enc := Ball.d) (pr := fun _ => true) (gd := fun b => .str b.nm) [("ball", 6)] scMostTogether.nd (blkOk_by (N := nMostTogether) (sc := defScope sMostTogether) (by decide +kernel)) (evi_tup (ev_var 4)) (by decide)
            (fun x hx s H C cl fp => tg_name 6 scMostTogether.nd) (fun x hx s H C cl fp => evts_nil) (fun x hx _ s H C cl fp => ev_ixT (d := .str x.nm) (ev_var 6) ev_int) (fun x hx => rfl) (by rw [List.length_cons]; omega)) (by rw [filter_yes]))) evd_nil)))
        ?_ rfl (by decide) ⟨.same rob_tab, .same (rob_off (flat_balls _)), .same (rob_flat rfl), .own, .same (rob_flat (flat_balls _)), trivial⟩)) ⟨rfl, rfl, rfl, rfl, trivial⟩) fun z => ?_))
    · show (true && (flatA ((a :: r).map fun b => PyData.str b.nm) && true)) = true
      rw [fnm]
      rfl
    · rw [ht] at z
      cases z
  · refine svs_stop (sv_if (evt_list (ev_var 3)) (fun _ => svs_cons (sv_asg (ev_minO T.zMin (ev_var 3)) (tg_tup (tgs_cons (tg_name 7 scMostTogether.nd) (tgs_cons (tg_name 8 scMostTogether.nd) tgs_nil)) rfl))
      (svs_cons (sv_set 9 scMostTogether.nd (ev_ixL (d := a.d) (ev_lc (xs := a :: r) (enc := Ball.d) (pr := fun b => decide (b.nm = a.nm)) (gd := Ball.d) [("ball", 6)] scMostTogether.nd (blkOk_by (N := nMostTogether) (sc := defScope sMostTogether) (by decide +kernel)) (evi_list (ev_var 1)) (by decide)
          (fun x hx s H C cl fp => tg_name 6 scMostTogether.nd) (fun x hx s H C cl fp => evts_one (evt_eqS (ev_ixT (d := .str x.nm) (ev_var 6) ev_int) (ev_ixT (d := .str a.nm) (ev_var 8) ev_int (L2.atI_nat (j := 0) rfl))))
          (fun x hx _ s H C cl fp => ev_var 6) (fun x hx => rfl) (by rw [List.length_cons]; omega)) ev_int (L2.atI_nat (j := 0) (by rw [List.filter_cons_of_pos (by simp)]; rfl))))
        (svs_one (sv_ret (ev_tup (evd_cons (ev_var 8) (evd_cons (ev_var 7) (evd_cons (ev_call (df_placeAt T a hoa hw hh c.1 hm) (hr.mono (by decide)) (eva_cons (ev_var 0) (eva_cons (ev_var 9) (eva_cons (ev_var 7) eva_nil)))) evd_nil))))))))
      fun z => by cases z)
end
end Cu
set_option Elab.async false
set_option linter.all false
set_option maxRecDepth 100000
set_option maxHeartbeats 2000000
namespace Cu
open PySem PySem.Spec PyProof.Rows L2

/-! ### divisors, remainders -/
theorem mul_ge {m k : Int} (hm : 0 < m) (h : 1 ≤ k) : m ≤ m * k := by
  have := Int.mul_le_mul_of_nonneg_left h (Int.le_of_lt hm)
  omega
theorem dvd_small {m d : Int} (hm : 0 < m) (h : m ∣ d) (h1 : -m < d) (h2 : d < m) : d = 0 := by
  obtain ⟨k, rfl⟩ := h
  by_cases a : 1 ≤ k
  · have := mul_ge hm a
    omega
  · by_cases b : k ≤ -1
    · have := mul_ge (k := -k) hm (by omega)
      rw [Int.mul_neg] at this
      omega
    · have : k = 0 := by omega
      rw [this, Int.mul_zero]
theorem dvd_sub_mod {m x y : Int} : m ∣ x - y ↔ x % m = y % m := by
  rw [Int.emod_eq_emod_iff_emod_sub_eq_zero, Int.dvd_iff_emod_eq_zero]
theorem mod_form {m : Int} (hm : 0 < m) (x : Int) : 0 ≤ x % m ∧ x % m < m ∧ m ∣ x - x % m := ⟨Int.emod_nonneg _ (by omega), Int.emod_lt_of_pos _ hm, by
  refine ⟨x / m, ?_⟩
  have := Int.mul_ediv_add_emod x m
  omega⟩
theorem dvd_shift {m a b : Int} (h : m ∣ a - b) : m ∣ a ↔ m ∣ b := by
  constructor
  · intro q
    have := Int.dvd_sub q h
    rwa [show a - (a - b) = b by omega] at this
  · intro q
    have := Int.dvd_add h q
    rwa [show a - b + b = a by omega] at this
theorem dvd_add_mod {m x y : Int} (hm : 0 < m) : m ∣ x + y ↔ x % m + y % m = 0 ∨ x % m + y % m = m := by
  obtain ⟨a1, a2, a3⟩ := mod_form hm x
  obtain ⟨b1, b2, b3⟩ := mod_form hm y
  have e : m ∣ x + y ↔ m ∣ x % m + y % m := dvd_shift (by
    have := Int.dvd_add a3 b3
    rwa [show x - x % m + (y - y % m) = x + y - (x % m + y % m) by omega] at this)
  rw [e]
  constructor
  · intro h
    by_cases c : x % m + y % m < m
    · exact .inl (dvd_small hm h (by omega) c)
    · have h2 : m ∣ x % m + y % m - m := Int.dvd_sub h (Int.dvd_refl m)
      have := dvd_small hm h2 (by omega) (by omega)
      exact .inr (by omega)
  · rintro (h | h)
    · rw [h]
      exact Int.dvd_zero m
    · rw [h]
      exact Int.dvd_refl m
theorem in_mod {m t x : Int} (hm : 0 < m) : m ∣ t - x % m ↔ m ∣ t - x := dvd_shift (by
  obtain ⟨_, _, h⟩ := mod_form hm x
  rwa [show t - x % m - (t - x) = x - x % m by omega])
/-! ### the fold -/
theorem fold_eq {n x y : Int} (hn : 0 < n) : foldF n x = foldF n y ↔ 2 * n ∣ x - y ∨ 2 * n ∣ x + y := by
  have h2 : 0 < 2 * n := by omega
  obtain ⟨a1, a2, _⟩ := mod_form h2 x
  obtain ⟨b1, b2, _⟩ := mod_form h2 y
  rw [dvd_sub_mod, dvd_add_mod h2]
  unfold foldF
  omega
theorem fold_small {n p : Int} (h0 : 0 ≤ p) (h1 : p ≤ n) (hn : 0 < n) : foldF n p = p := by
  unfold foldF
  rw [Int.emod_eq_of_lt h0 (by omega)]
  omega
theorem fold_rng {n x : Int} (hn : 0 < n) : 0 ≤ foldF n x ∧ foldF n x ≤ n := by
  obtain ⟨a1, a2, _⟩ := mod_form (show 0 < 2 * n by omega) x
  unfold foldF
  omega
theorem succ_mod {m x : Int} (hm : 0 < m) : (x + 1) % m = if x % m + 1 = m then 0 else x % m + 1 := by
  obtain ⟨a1, a2, a3⟩ := mod_form hm x
  by_cases c : x % m + 1 = m
  · rw [if_pos c]
    refine Int.emod_eq_zero_of_dvd ?_
    refine (dvd_shift (b := x % m + 1) (by rwa [show x + 1 - (x % m + 1) = x - x % m by omega])).mpr ?_
    rw [c]
    exact Int.dvd_refl m
  · rw [if_neg c]
    have e : (x + 1) % m = (x % m + 1) % m := dvd_sub_mod.mp (by rwa [show x + 1 - (x % m + 1) = x - x % m by omega])
    rw [e]
    exact Int.emod_eq_of_lt (by omega) (by omega)
theorem fold_step {n x : Int} (hn : 0 < n) : foldF n (x + 1) = foldF n x + 1 ∨ foldF n (x + 1) = foldF n x - 1 := by
  have h2 : 0 < 2 * n := by omega
  obtain ⟨a1, a2, _⟩ := mod_form h2 x
  have e := succ_mod (x := x) h2
  unfold foldF
  rw [e]
  by_cases c : x % (2 * n) + 1 = 2 * n
  · rw [if_pos c]
    omega
  · rw [if_neg c]
    omega
theorem half_eq {n x y : Int} (hn : 0 < n) : foldF n x + foldF n (x + 1) = foldF n y + foldF n (y + 1) ↔ 2 * n ∣ x - y ∨ 2 * n ∣ x + (y + 1) := by
  have h2 : 0 < 2 * n := by omega
  obtain ⟨a1, a2, _⟩ := mod_form h2 x
  obtain ⟨b1, b2, _⟩ := mod_form h2 y
  have e1 := succ_mod (x := x) h2
  have e2 := succ_mod (x := y) h2
  rw [dvd_sub_mod, dvd_add_mod h2]
  unfold foldF
  rw [e1, e2]
  by_cases c : x % (2 * n) + 1 = 2 * n
  · rw [if_pos c]
    by_cases d : y % (2 * n) + 1 = 2 * n
    · rw [if_pos d]
      omega
    · rw [if_neg d]
      omega
  · rw [if_neg c]
    by_cases d : y % (2 * n) + 1 = 2 * n
    · rw [if_pos d]
      omega
    · rw [if_neg d]
      omega
theorem half_odd {n x : Int} (hn : 0 < n) : (foldF n x + foldF n (x + 1)) % 2 = 1 := by
  rcases fold_step (x := x) hn with h | h <;> rw [h] <;> omega
theorem part_off {n p s b t : Int} (hn : 0 < n) (hs : s ≠ 0) : partAt n p s (t - b) = foldF n (offsetOf n p s b + t) := by
  unfold partAt
  rw [if_neg hs]
  refine (fold_eq hn).mpr (.inl ?_)
  unfold offsetOf
  obtain ⟨_, _, h⟩ := mod_form (show 0 < 2 * n by omega) (phaseOf n p s - b)
  rwa [show phaseOf n p s + (t - b) - ((phaseOf n p s - b) % (2 * n) + t) = phaseOf n p s - b - (phaseOf n p s - b) % (2 * n) by omega]
theorem part_rng {n p s t : Int} (hn : 0 < n) (h0 : 0 ≤ p) (h1 : p ≤ n) : 0 ≤ partAt n p s t ∧ partAt n p s t ≤ n := by
  unfold partAt
  by_cases hs : s = 0
  · rw [if_pos hs]
    exact ⟨h0, h1⟩
  · rw [if_neg hs]
    exact fold_rng hn
/-! ### the law's own reckoning -/
theorem law_fold {n x : Int} (hn : 0 < n) : (if x / n % 2 = 1 then n - (x - x / n * n) else x - x / n * n) = foldF n x := by
  obtain ⟨a1, a2, _⟩ := mod_form hn x
  have e0 : x - x / n * n = x % n := by
    have := Int.mul_ediv_add_emod x n
    rw [Int.mul_comm] at this
    omega
  rw [e0]
  have e1 : x % (2 * n) = x % n + n * (x / n % 2) := by
    have h := Int.mul_ediv_add_emod x n
    have h' := Int.mul_ediv_add_emod (x / n) 2
    have hm : 2 * n ∣ x - (x % n + n * (x / n % 2)) := ⟨x / n / 2, by
      have e : n * (x / n) = n * (2 * (x / n / 2)) + n * (x / n % 2) := by
        rw [← Int.mul_add, h']
      have e3 : n * (2 * (x / n / 2)) = 2 * n * (x / n / 2) := by
        rw [← Int.mul_assoc, Int.mul_comm n 2]
      omega⟩
    have r0 : 0 ≤ x / n % 2 := Int.emod_nonneg _ (by decide)
    have r1 : x / n % 2 < 2 := Int.emod_lt_of_pos _ (by decide)
    rw [dvd_sub_mod.mp hm]
    have : x / n % 2 = 0 ∨ x / n % 2 = 1 := by omega
    refine Int.emod_eq_of_lt ?_ ?_
    · rcases this with q | q <;> rw [q] <;> omega
    · rcases this with q | q <;> rw [q] <;> omega
  unfold foldF
  rw [e1]
  by_cases c : x / n % 2 = 1
  · rw [if_pos c, c]
    omega
  · rw [if_neg c]
    have : x / n % 2 = 0 := by omega
    rw [this]
    omega
theorem lawPart_eq {n p s t : Int} (hn : 0 < n) (h0 : 0 ≤ p) (h1 : p ≤ n) (hs : s = -1 ∨ s = 0 ∨ s = 1) : lawPart n p s t = partAt n p s t := by
  unfold lawPart
  rw [law_fold hn]
  unfold partAt phaseOf
  rcases hs with rfl | rfl | rfl
  · rw [if_neg (by decide), if_neg (by decide)]
    refine (fold_eq hn).mpr (.inr ?_)
    obtain ⟨_, _, h⟩ := mod_form (show 0 < 2 * n by omega) (-p)
    have h' := Int.dvd_neg.mpr h
    rwa [show p + -1 * t + (-p % (2 * n) + t) = -(-p - -p % (2 * n)) by omega]
  · rw [if_pos rfl, show p + 0 * t = p by omega]
    exact fold_small h0 h1 hn
  · rw [if_neg (by decide), if_pos rfl, show p + 1 * t = p + t by omega]
/-! ### the classes of two parts -/
theorem in01 (t : Int) : In t (0, 1) := Int.one_dvd _
theorem ex_one {c : Int × Int} {Q : Int × Int → Prop} : (∃ d ∈ [c], Q d) ↔ Q c := by simp
theorem ex_none {Q : Int × Int → Prop} : (∃ d ∈ ([] : List (Int × Int)), Q d) ↔ False := by simp
theorem dvd_two {n a : Int} : 2 * n ∣ 2 * a ↔ n ∣ a := Int.mul_dvd_mul_iff_left (by decide)
theorem even_cls {n tot t : Int} (hn : 0 < n) (he : tot % 2 ≠ 1) : In t (-(tot / 2) % n, n) ↔ 2 * n ∣ tot + 2 * t := by
  show n ∣ t - -(tot / 2) % n ↔ _
  rw [in_mod hn, show tot + 2 * t = 2 * (t - -(tot / 2)) by omega, dvd_two]
theorem odd_cls {n tot t : Int} (he : tot % 2 = 1) : ¬ 2 * n ∣ tot + 2 * t := by
  rintro ⟨k, hk⟩
  rw [Int.mul_assoc] at hk
  omega
theorem off_rng {n p s b : Int} (hn : 0 < n) : 0 ≤ offsetOf n p s b ∧ offsetOf n p s b < 2 * n := by
  obtain ⟨h1, h2, _⟩ := mod_form (show 0 < 2 * n by omega) (phaseOf n p s - b)
  exact ⟨h1, h2⟩
theorem cls_moving {n a b t : Int} (hn : 0 < n) (ha : 0 ≤ a ∧ a < 2 * n) (hb : 0 ≤ b ∧ b < 2 * n) : (∃ c ∈ metMoving n a b, In t c) ↔ foldF n (a + t) = foldF n (b + t) := by
  rw [fold_eq hn, show a + t - (b + t) = a - b by omega, show a + t + (b + t) = a + b + 2 * t by omega]
  unfold metMoving
  by_cases h : a = b
  · rw [if_pos h, ex_one]
    refine ⟨fun _ => .inl ?_, fun _ => in01 t⟩
    rw [h, Int.sub_self]
    exact Int.dvd_zero _
  · have h' : ¬ 2 * n ∣ a - b := fun q => h (by have := dvd_small (by omega) q (by omega) (by omega); omega)
    rw [if_neg h]
    by_cases o : (a + b) % 2 = 1
    · rw [if_pos o, ex_none]
      refine ⟨fun z => z.elim, fun z => ?_⟩
      rcases z with z | z
      · exact h' z
      · exact odd_cls o z
    · rw [if_neg o, ex_one, even_cls hn o]
      exact ⟨.inr, fun z => z.resolve_left h'⟩
theorem cls_half {n a b t : Int} (hn : 0 < n) (ha : 0 ≤ a ∧ a < 2 * n) (hb : 0 ≤ b ∧ b < 2 * n) : (∃ c ∈ halfMoving n a b, In t c) ↔ foldF n (a + t) + foldF n (a + t + 1) = foldF n (b + t) + foldF n (b + t + 1) := by
  rw [half_eq hn, show a + t - (b + t) = a - b by omega, show a + t + (b + t + 1) = a + b + 1 + 2 * t by omega]
  unfold halfMoving
  by_cases h : a = b
  · rw [if_pos h, ex_one]
    refine ⟨fun _ => .inl ?_, fun _ => in01 t⟩
    rw [h, Int.sub_self]
    exact Int.dvd_zero _
  · have h' : ¬ 2 * n ∣ a - b := fun q => h (by have := dvd_small (by omega) q (by omega) (by omega); omega)
    rw [if_neg h]
    by_cases o : (a + b + 1) % 2 = 1
    · rw [if_pos o, ex_none]
      refine ⟨fun z => z.elim, fun z => ?_⟩
      rcases z with z | z
      · exact h' z
      · exact odd_cls o z
    · rw [if_neg o, ex_one, even_cls hn o]
      exact ⟨.inr, fun z => z.resolve_left h'⟩
theorem cls_stand {n m g t : Int} (hn : 0 < n) (h0 : 0 ≤ g) (h1 : g ≤ n) : (∃ c ∈ metStanding n m g, In t c) ↔ foldF n (m + t) = g := by
  have e : foldF n (m + t) = g ↔ 2 * n ∣ m + t - g ∨ 2 * n ∣ m + t + g := by
    have := fold_eq (x := m + t) (y := g) hn
    rw [fold_small h0 h1 hn] at this
    exact this
  have h2 : 0 < 2 * n := by omega
  have i1 : In t ((g - m) % (2 * n), 2 * n) ↔ 2 * n ∣ m + t - g := by
    show 2 * n ∣ t - (g - m) % (2 * n) ↔ _
    rw [in_mod h2, show t - (g - m) = m + t - g by omega]
  have i2 : In t ((-g - m) % (2 * n), 2 * n) ↔ 2 * n ∣ m + t + g := by
    show 2 * n ∣ t - (-g - m) % (2 * n) ↔ _
    rw [in_mod h2, show t - (-g - m) = m + t + g by omega]
  rw [e, ← i1, ← i2]
  unfold metStanding
  by_cases c : (g - m) % (2 * n) = (-g - m) % (2 * n)
  · rw [if_pos c, ex_one, ← c]
    exact ⟨.inl, fun z => z.elim id id⟩
  · rw [if_neg c]
    simp
theorem part_meet {n p s b g mv bg t : Int} (hn : 0 < n) (p0 : 0 ≤ p) (p1 : p ≤ n) (g0 : 0 ≤ g) (g1 : g ≤ n) : (∃ c ∈ partCl n p s b g mv bg false, In t c) ↔ partAt n p s (t - b) = partAt n g mv (t - bg) := by
  have st : ∀ {p t : Int}, partAt n p 0 t = p := fun {p t} => if_pos rfl
  unfold partCl
  by_cases c1 : s = 0 ∧ mv = 0
  · rw [if_pos c1, c1.1, c1.2, st, st]
    by_cases c : p = g
    · rw [if_pos c, ex_one]
      exact ⟨fun _ => c, fun _ => in01 t⟩
    · rw [if_neg c, ex_none]
      exact ⟨fun z => z.elim, fun z => c z⟩
  · rw [if_neg c1]
    by_cases c2 : s ≠ 0 ∧ mv ≠ 0
    · rw [if_pos c2, if_neg Bool.false_ne_true, cls_moving hn (off_rng hn) (off_rng hn), ← part_off hn c2.1, ← part_off hn c2.2]
    · rw [if_neg c2, if_neg Bool.false_ne_true]
      by_cases c3 : s ≠ 0
      · have z : mv = 0 := by
          by_cases q : mv = 0
          · exact q
          · exact absurd ⟨c3, q⟩ c2
        rw [if_pos c3, z, st, cls_stand hn g0 g1, ← part_off hn c3]
      · have z : s = 0 := by
          by_cases q : s = 0
          · exact q
          · exact absurd q c3
        have z2 : mv ≠ 0 := fun q => c1 ⟨z, q⟩
        rw [if_neg c3, z, st, cls_stand hn p0 p1, ← part_off hn z2]
        exact eq_comm
theorem part_half {n p s b g mv bg t : Int} (hn : 0 < n) : (∃ c ∈ partCl n p s b g mv bg true, In t c) ↔ partAt n p s (t - b) + partAt n p s (t + 1 - b) = partAt n g mv (t - bg) + partAt n g mv (t + 1 - bg) := by
  have st : ∀ {p t : Int}, partAt n p 0 t = p := fun {p t} => if_pos rfl
  have od : ∀ {p s b : Int}, s ≠ 0 → (partAt n p s (t - b) + partAt n p s (t + 1 - b)) % 2 = 1 := fun {p s b} hs => by
    rw [part_off hn hs, part_off hn hs, show offsetOf n p s b + (t + 1) = offsetOf n p s b + t + 1 by omega]
    exact half_odd hn
  unfold partCl
  by_cases c1 : s = 0 ∧ mv = 0
  · rw [if_pos c1, c1.1, c1.2, st, st, st, st]
    by_cases c : p = g
    · rw [if_pos c, ex_one]
      exact ⟨fun _ => by omega, fun _ => in01 t⟩
    · rw [if_neg c, ex_none]
      exact ⟨fun z => z.elim, fun z => c (by omega)⟩
  · rw [if_neg c1]
    by_cases c2 : s ≠ 0 ∧ mv ≠ 0
    · rw [if_pos c2, if_pos rfl, cls_half hn (off_rng hn) (off_rng hn), part_off hn c2.1, part_off hn c2.2, part_off hn c2.1, part_off hn c2.2, Int.add_assoc (offsetOf n p s b), Int.add_assoc (offsetOf n g mv bg)]
    · rw [if_neg c2, if_pos rfl, ex_none]
      refine ⟨fun z => z.elim, fun z => ?_⟩
      by_cases c3 : s = 0
      · have z2 : mv ≠ 0 := fun q => c1 ⟨c3, q⟩
        have := od (p := g) (b := bg) z2
        rw [← z, c3, st, st] at this
        omega
      · have z2 : mv = 0 := by
          by_cases q : mv = 0
          · exact q
          · exact absurd ⟨c3, q⟩ c2
        have := od (p := p) (b := b) c3
        rw [z, z2, st, st] at this
        omega
end Cu
set_option Elab.async false
set_option linter.all false
set_option maxRecDepth 100000
set_option maxHeartbeats 2000000
namespace Cu
open PySem PySem.Spec PyProof.Rows L2

theorem pos01 : ∀ c ∈ [((0 : Int), (1 : Int))], 0 < c.2 := fun c hc => by
  rw [List.mem_singleton.mp hc]
  decide
section
variable {w h : Int}
theorem pair_meet {a b : Ball} (hw : 0 < w) (hw2 : w ≤ 10 ^ 30) (hh : 0 < h) (hh2 : h ≤ 10 ^ 30) (oa : OkBall w h a) (ob : OkBall w h b) (t : Int) : (∃ c ∈ pairCl w h a b false, In t c) ↔ placeAt w h a t = placeAt w h b t := by
  have p1 : ∀ c ∈ partCl w a.x a.dx a.m b.x b.dx b.m false, 0 < c.2 := fun c hc => (partCl_cl hw hw2 c hc).pos
  have p2 : ∀ c ∈ partCl h a.y a.dy a.m b.y b.dy b.m false, 0 < c.2 := fun c hc => (partCl_cl hh hh2 c hc).pos
  have p3 : ∀ c ∈ both [(0, 1)] (partCl w a.x a.dx a.m b.x b.dx b.m false), 0 < c.2 := fun c hc => (both_cl (a := 1) (fun c hc => by rw [List.mem_singleton.mp hc]; exact cl01 1 (by decide)) (partCl_cl hw hw2) c hc).pos
  unfold pairCl
  rw [in_both p3 p2, in_both pos01 p1, ex_one, part_meet hw oa.x0 oa.x1 ob.x0 ob.x1, part_meet hh oa.y0 oa.y1 ob.y0 ob.y1]
  constructor
  · rintro ⟨⟨_, h1⟩, h2⟩
    exact Prod.ext h1 h2
  · intro e
    exact ⟨⟨in01 t, congrArg Prod.fst e⟩, congrArg Prod.snd e⟩
theorem pair_half {a b : Ball} (hw : 0 < w) (hw2 : w ≤ 10 ^ 30) (hh : 0 < h) (hh2 : h ≤ 10 ^ 30) (t : Int) : (∃ c ∈ pairCl w h a b true, In t c) ↔ middleF w h a t = middleF w h b t := by
  have p1 : ∀ c ∈ partCl w a.x a.dx a.m b.x b.dx b.m true, 0 < c.2 := fun c hc => (partCl_cl hw hw2 c hc).pos
  have p2 : ∀ c ∈ partCl h a.y a.dy a.m b.y b.dy b.m true, 0 < c.2 := fun c hc => (partCl_cl hh hh2 c hc).pos
  have p3 : ∀ c ∈ both [(0, 1)] (partCl w a.x a.dx a.m b.x b.dx b.m true), 0 < c.2 := fun c hc => (both_cl (a := 1) (fun c hc => by rw [List.mem_singleton.mp hc]; exact cl01 1 (by decide)) (partCl_cl hw hw2) c hc).pos
  unfold pairCl
  rw [in_both p3 p2, in_both pos01 p1, ex_one, part_half hw, part_half hh]
  constructor
  · rintro ⟨⟨_, h1⟩, h2⟩
    exact Prod.ext h1 h2
  · intro e
    exact ⟨⟨in01 t, congrArg Prod.fst e⟩, congrArg Prod.snd e⟩
theorem tog_meet {a : Ball} (hw : 0 < w) (hw2 : w ≤ 10 ^ 30) (hh : 0 < h) (hh2 : h ≤ 10 ^ 30) (oa : OkBall w h a) (t : Int) : ∀ l : List Ball, (∀ b ∈ l, OkBall w h b) → ((∃ c ∈ togCl w h a l, In t c) ↔ ∀ b ∈ l, placeAt w h a t = placeAt w h b t)
  | [], _ => by
    show (∃ c ∈ [((0 : Int), (1 : Int))], In t c) ↔ _
    rw [ex_one]
    exact ⟨fun _ b hb => (by cases hb), fun _ => in01 t⟩
  | b :: l, ol => by
    have ih := tog_meet hw hw2 hh hh2 oa t l fun c hc => ol c (List.mem_cons_of_mem _ hc)
    show (∃ c ∈ both (togCl w h a l) (pairCl w h a b false), In t c) ↔ _
    rw [in_both (fun c hc => (togCl_cl hw hw2 hh hh2 l c hc).pos) (fun c hc => (pairCl_cl hw hw2 hh hh2 c hc).pos), ih, pair_meet hw hw2 hh hh2 oa (ol b List.mem_cons_self)]
    constructor
    · rintro ⟨h1, h2⟩ c hc
      rcases List.mem_cons.mp hc with rfl | hc
      · exact h2
      · exact h1 c hc
    · intro q
      exact ⟨fun c hc => q c (List.mem_cons_of_mem _ hc), q b List.mem_cons_self⟩
end
/-! ### classes from a minute on -/
theorem from_mem {cs : List (Int × Int)} {m : Int} {c : Int × Int} (hp : ∀ d ∈ cs, 0 < d.2) (hc : c ∈ fromMin cs m) : 0 < c.2 ∧ m ≤ c.1 ∧ c.1 < m + c.2 ∧ (∃ d ∈ cs, d.2 = c.2 ∧ In c.1 d ∧ In (c.1 + c.2) d) := by
  obtain ⟨d, hd, rfl⟩ := mem_fromMin hc
  obtain ⟨h1, h2, h3⟩ := mod_form (hp d hd) (d.1 - m)
  have i1 : d.2 ∣ m + (d.1 - m) % d.2 - d.1 := by
    have := Int.dvd_neg.mpr h3
    rwa [show -(d.1 - m - (d.1 - m) % d.2) = m + (d.1 - m) % d.2 - d.1 by omega] at this
  refine ⟨hp d hd, by show m ≤ m + _; omega, by show m + _ < m + d.2; omega, d, hd, rfl, i1, ?_⟩
  show d.2 ∣ m + (d.1 - m) % d.2 + d.2 - d.1
  have := Int.dvd_add i1 (Int.dvd_refl d.2)
  rwa [show m + (d.1 - m) % d.2 - d.1 + d.2 = m + (d.1 - m) % d.2 + d.2 - d.1 by omega] at this
theorem mem_from {cs : List (Int × Int)} {m : Int} {d : Int × Int} (hd : d ∈ cs) : (m + (d.1 - m) % d.2, d.2) ∈ fromMin cs m := (sortP_perm _).mem_iff.mpr (List.mem_map.mpr ⟨d, hd, rfl⟩)
theorem isIn_iff {cs : List (Int × Int)} {m t : Int} (hp : ∀ d ∈ cs, 0 < d.2) (ht : m ≤ t) : isInF (fromMin cs m) t = true ↔ ∃ d ∈ cs, In t d := by
  have e : isInF (fromMin cs m) t = true ↔ ∃ c ∈ fromMin cs m, inRow t c = true := by
    unfold isInF
    rw [decide_eq_true_eq, Int.natCast_pos, List.length_pos_iff_exists_mem]
    constructor
    · rintro ⟨c, hc⟩
      exact ⟨c, (List.mem_filter.mp hc).1, (List.mem_filter.mp hc).2⟩
    · rintro ⟨c, h1, h2⟩
      exact ⟨c, List.mem_filter.mpr ⟨h1, h2⟩⟩
  rw [e]
  have row : ∀ c : Int × Int, inRow t c = true ↔ c.1 ≤ t ∧ c.2 ∣ t - c.1 := fun c => by
    unfold inRow
    rw [Bool.and_eq_true, decide_eq_true_eq, decide_eq_true_eq, Int.dvd_iff_emod_eq_zero]
  constructor
  · rintro ⟨c, hc, h1⟩
    obtain ⟨c0, _, _, d, hd, e2, i1, _⟩ := from_mem hp hc
    refine ⟨d, hd, ?_⟩
    have h2 := ((row c).mp h1).2
    have i1' : d.2 ∣ c.1 - d.1 := i1
    rw [← e2] at h2
    have := Int.dvd_add h2 i1'
    show d.2 ∣ t - d.1
    rwa [show t - c.1 + (c.1 - d.1) = t - d.1 by omega] at this
  · rintro ⟨d, hd, hi⟩
    refine ⟨_, mem_from hd, (row _).mpr ?_⟩
    have p := hp d hd
    obtain ⟨h1, h2, h3⟩ := mod_form p (d.1 - m)
    have hi' : d.2 ∣ t - d.1 := hi
    have q : d.2 ∣ t - (m + (d.1 - m) % d.2) := by
      have := Int.dvd_add hi' h3
      rwa [show t - d.1 + (d.1 - m - (d.1 - m) % d.2) = t - (m + (d.1 - m) % d.2) by omega] at this
    refine ⟨?_, q⟩
    show m + (d.1 - m) % d.2 ≤ t
    by_cases c : m + (d.1 - m) % d.2 ≤ t
    · exact c
    · have := dvd_small p q (by omega) (by omega)
      omega
theorem later_next {c : Int × Int} {t : Int} (hc : 0 < c.2) : laterF t c = nextF t c := by
  unfold laterF nextF
  by_cases h : t ≤ c.1
  · have e1 : max 0 (t - c.1 + c.2 - 1) / c.2 = 0 := Int.ediv_eq_zero_of_lt (by omega) (by omega)
    have e2 : (c.1 - t) % c.2 ≤ c.1 - t := by
      have := Int.mul_ediv_add_emod (c.1 - t) c.2
      have q : 0 ≤ c.2 * ((c.1 - t) / c.2) := Int.mul_nonneg (Int.le_of_lt hc) (Int.ediv_nonneg (by omega) (Int.le_of_lt hc))
      omega
    rw [e1, Int.zero_mul]
    omega
  · have e0 : max 0 (t - c.1 + c.2 - 1) = t - c.1 + c.2 - 1 := by omega
    rw [e0]
    have f := Int.mul_ediv_add_emod (t - c.1 + c.2 - 1) c.2
    obtain ⟨h1, h2, h3⟩ := mod_form hc (t - c.1 + c.2 - 1)
    have e : (c.1 - t) % c.2 = c.2 - 1 - (t - c.1 + c.2 - 1) % c.2 := by
      have q : c.2 ∣ c.1 - t - (c.2 - 1 - (t - c.1 + c.2 - 1) % c.2) := by
        have := Int.dvd_neg.mpr h3
        rwa [show -(t - c.1 + c.2 - 1 - (t - c.1 + c.2 - 1) % c.2) = c.1 - t - (c.2 - 1 - (t - c.1 + c.2 - 1) % c.2) by omega] at this
      rw [dvd_sub_mod.mp q]
      exact Int.emod_eq_of_lt (by omega) (by omega)
    rw [e, Int.mul_comm ((t - c.1 + c.2 - 1) / c.2) c.2]
    omega
theorem from_least {cs : List (Int × Int)} {m : Int} {c : Int × Int} {rs : List (Int × Int)} (h : fromMin cs m = c :: rs) : ∀ d ∈ c :: rs, c.1 ≤ d.1 := by
  have hs := sortP_sorted (cs.map fun c => (m + (c.1 - m) % c.2, c.2))
  have h' : sortP (cs.map fun c => (m + (c.1 - m) % c.2, c.2)) = c :: rs := h
  rw [h', List.pairwise_cons] at hs
  intro d hd
  rcases List.mem_cons.mp hd with rfl | hd
  · exact Int.le_refl _
  · have := SrtO.lexB_no.mp (hs.1 d hd)
    omega
/-! ### led balls -/
theorem back_ok {n pt hd t : Int} (hn : 0 < n) (p0 : 0 ≤ pt) (p1 : pt ≤ n) : 0 ≤ (lawBack n pt hd t).1 ∧ (lawBack n pt hd t).1 ≤ n ∧ ((lawBack n pt hd t).2 = -1 ∨ (lawBack n pt hd t).2 = 0 ∨ (lawBack n pt hd t).2 = 1) ∧ ((lawBack n pt hd t).2 = 0 ↔ hd = 0) := by
  have r : 0 ≤ phB n pt hd t ∧ phB n pt hd t < 2 * n := by
    unfold phB
    by_cases c : hd = -1
    · rw [if_pos c]
      obtain ⟨h1, h2, _⟩ := mod_form (show 0 < 2 * n by omega) (2 * n - pt - t)
      exact ⟨h1, h2⟩
    · rw [if_neg c]
      obtain ⟨h1, h2, _⟩ := mod_form (show 0 < 2 * n by omega) (pt - t)
      exact ⟨h1, h2⟩
  unfold lawBack
  by_cases c : hd = 0
  · rw [if_pos c]
    exact ⟨p0, p1, .inr (.inl rfl), ⟨fun _ => c, fun _ => rfl⟩⟩
  · rw [if_neg c]
    by_cases d : phB n pt hd t < n
    · rw [if_pos d]
      exact ⟨r.1, Int.le_of_lt d, .inr (.inr rfl), ⟨fun z => absurd (show (1 : Int) = 0 from z) (by decide), fun z => absurd z c⟩⟩
    · rw [if_neg d]
      refine ⟨?_, ?_, .inl rfl, ⟨fun z => absurd (show (-1 : Int) = 0 from z) (by decide), fun z => absurd z c⟩⟩
      · show 0 ≤ 2 * n - _
        omega
      · show 2 * n - _ ≤ n
        omega
theorem back_at {n pt hd t k : Int} (hn : 0 < n) (hd0 : hd ≠ 0) : partAt n (lawBack n pt hd t).1 (lawBack n pt hd t).2 (t + k) = foldF n (if hd = -1 then pt - k else pt + k) := by
  have h2 : 0 < 2 * n := by omega
  have e : foldF n (phB n pt hd t + (t + k)) = foldF n (if hd = -1 then pt - k else pt + k) := by
    unfold phB
    by_cases c : hd = -1
    · rw [if_pos c, if_pos c]
      refine (fold_eq hn).mpr (.inr ?_)
      obtain ⟨_, _, h⟩ := mod_form h2 (2 * n - pt - t)
      have h' := Int.dvd_sub (Int.dvd_refl (2 * n)) h
      rwa [show 2 * n - (2 * n - pt - t - (2 * n - pt - t) % (2 * n)) = (2 * n - pt - t) % (2 * n) + (t + k) + (pt - k) by omega] at h'
    · rw [if_neg c, if_neg c]
      refine (fold_eq hn).mpr (.inl ?_)
      obtain ⟨_, _, h⟩ := mod_form h2 (pt - t)
      have h' := Int.dvd_neg.mpr h
      rwa [show -(pt - t - (pt - t) % (2 * n)) = (pt - t) % (2 * n) + (t + k) - (pt + k) by omega] at h'
  rw [← e]
  unfold lawBack
  rw [if_neg hd0]
  by_cases d : phB n pt hd t < n
  · rw [if_pos d]
    show partAt n (phB n pt hd t) 1 (t + k) = _
    unfold partAt phaseOf
    rw [if_neg (by decide), if_pos rfl]
  · rw [if_neg d]
    show partAt n (2 * n - phB n pt hd t) (-1) (t + k) = _
    unfold partAt phaseOf
    rw [if_neg (by decide), if_neg (by decide)]
    refine (fold_eq hn).mpr (.inl ?_)
    obtain ⟨_, _, h⟩ := mod_form h2 (-(2 * n - phB n pt hd t))
    have h' := Int.dvd_sub (Int.dvd_neg.mpr h) (Int.dvd_refl (2 * n))
    rwa [show -(-(2 * n - phB n pt hd t) - -(2 * n - phB n pt hd t) % (2 * n)) - 2 * n = -(2 * n - phB n pt hd t) % (2 * n) + (t + k) - (phB n pt hd t + (t + k)) by omega] at h'
theorem back_zero {n pt t k : Int} : partAt n (lawBack n pt 0 t).1 (lawBack n pt 0 t).2 k = pt := by
  show partAt n pt 0 k = pt
  exact if_pos rfl
/-- a ball that is led stands at the point at the minute -/
theorem back_here {n pt hd t : Int} (hn : 0 < n) (p0 : 0 ≤ pt) (p1 : pt ≤ n) : partAt n (lawBack n pt hd t).1 (lawBack n pt hd t).2 t = pt := by
  by_cases c : hd = 0
  · rw [c]
    exact back_zero
  · have := back_at (pt := pt) (t := t) (k := 0) hn c
    rw [Int.add_zero, Int.add_zero, Int.sub_zero, ite_self, fold_small p0 p1 hn] at this
    exact this
/-- and goes where it is headed -/
theorem back_there {n pt q t : Int} (hn : 0 < n) (p0 : 0 ≤ pt) (p1 : pt ≤ n) (q0 : 0 ≤ q) (q1 : q ≤ n) (h : q - pt = -1 ∨ q - pt = 0 ∨ q - pt = 1) : partAt n (lawBack n pt (q - pt) t).1 (lawBack n pt (q - pt) t).2 (t + 1) = q := by
  rcases h with h | h | h
  · rw [back_at hn (by omega), if_pos h, show pt - 1 = q by omega, fold_small q0 q1 hn]
  · rw [h, back_zero]
    omega
  · rw [back_at hn (by omega), if_neg (by omega), show pt + 1 = q by omega, fold_small q0 q1 hn]
theorem part_step {n p s t : Int} (hn : 0 < n) (h0 : 0 ≤ p) (h1 : p ≤ n) : (s = 0 ∧ partAt n p s (t + 1) = partAt n p s t) ∨ (s ≠ 0 ∧ (partAt n p s (t + 1) = partAt n p s t + 1 ∨ partAt n p s (t + 1) = partAt n p s t - 1)) := by
  by_cases c : s = 0
  · refine .inl ⟨c, ?_⟩
    unfold partAt
    rw [if_pos c, if_pos c]
  · refine .inr ⟨c, ?_⟩
    unfold partAt
    rw [if_neg c, if_neg c, ← Int.add_assoc]
    exact fold_step hn
end Cu
set_option Elab.async false
set_option linter.all false
set_option maxRecDepth 100000
set_option maxHeartbeats 2000000
/-! xs.count(x) over data -/
namespace Cu
open PySem PySem.Spec PyProof.Rows L2

def rCountD (K : PySem.W.Frag) : V → List V → Hp → VK → Prop := fun x vs H Q => ∃ (p : Addr) (xs : List V) (v : V) (ds : List PyData) (d : PyData), x = .ref p ∧ vs = [v] ∧ SqL K H p xs ∧ DpAll K H xs ds ∧ Dp K H v d ∧ PyData.plainAll ds = true ∧ d.plain = true ∧ d.depth ≤ 8 ∧
  Q (.int ((ds.countP fun y => PyData.eqv y d : Nat) : Int)) H
section
variable {X : Cx} {a e : Expr} {ρ : Rho} {pos apos : Pos} {ds : List PyData} {d : PyData}
theorem mt_countD (hu : X.A.units + 64 < cLine) : MtR X "list.count" (rCountD X.K) := by
  intro pins s σ H x vs v us Q I rx rv h
  obtain ⟨p, xs, w', ds, d, rfl, rfl, hs, ha, hd, p1, p2, hdp, q⟩ := h
  cases rx
  obtain ⟨u, rfl, ru⟩ := rv.one
  obtain ⟨its, rits, hl, hz⟩ := I.list hs
  obtain ⟨as, r1⟩ := Dp.readsAll I ds _ its ha rits
  obtain ⟨bs, r2⟩ := Dp.reads I d w' u hd ru
  exact PySem.SeqAt.count_list_data (vs := its.toArray) hl.isList r1 r2 p1 p2 (by omega) ⟨.int _, H, I.tok _, ⟨_, rfl⟩, q⟩
theorem ev_count (hu : X.A.units + 64 < cLine) (ho : Ev X a ρ (pL ds)) (he : Ev X e ρ (dat d)) (p1 : PyData.plainAll ds = true) (p2 : d.plain = true) (p3 : d.depth ≤ 8)
    (hbase : attributeBase a "count" X.env (eval a X.env) = eval a X.env := by rfl)
    (hfew : ((backTo pos (starEach [e] X.env)).all (fun x => !x.1) && (backToKw pos (keywordEach [] X.env)).all (fun x => x.1.isSome)
      && decide (([e] : List Expr).length + ([] : List Keyword).length + (if ([] : List Keyword).isEmpty then 0 else 1) < 30)) = true := by rfl)
    (hline : (apos.endLine == pos.line) = true := by rfl) (hs : starEach [e] X.env = (false, eval e X.env) :: starEach [] X.env := by rfl) (hpl : (backTo pos (starEach [] X.env)).any (·.1) = false := by rfl) :
    Ev X (.Call (.Attribute a "count" apos) [e] [] pos) ρ (pI ((ds.countP fun y => PyData.eqv y d : Nat) : Int)) :=
  pe_to (pe_bm PySem.F.plainAttrs_list PySem.F.slot_list_count PySem.F.type_list_count (mt_countD hu) ho (eva_cons he eva_nil hs) hbase hfew hline hs hpl) fun σ H Q ⟨st, k⟩ => ⟨st, fun v H1 e1 q => by
    obtain ⟨l, xs, rfl, hl, r⟩ := q.ofL
    refine ⟨.inl ⟨rfl, _, SqL.of hl⟩, st.mono e1, fun vs H2 e2 q2 => ?_⟩
    obtain ⟨y, rfl, q3⟩ := ps1 q2
    exact ⟨l, xs, y, ds, d, rfl, rfl, SqL.of (e2 _ _ hl), (r.mono e2).dp, q3.dp, p1, p2, p3, k _ H2 (e1.trans e2) (.int _)⟩⟩
end
theorem plain_pr2 (cs : List (Int × Int)) : PyData.plainAll (cs.map pr2) = true := by
  induction cs with
  | nil => rfl
  | cons c cs ih =>
    show (PyData.plain (pr2 c) && PyData.plainAll (cs.map pr2)) = true
    rw [ih]
    rfl
theorem eqv_pr2 (c : Int × Int) : PyData.eqv (pr2 c) (pr2 c) = true := by
  show ((c.1 == c.1) && ((c.2 == c.2) && true)) = true
  simp
theorem count_all {cs : List (Int × Int)} {c : Int × Int} (h : ∀ d ∈ cs, d = c) : (cs.map pr2).countP (fun y => PyData.eqv y (pr2 c)) = cs.length := by
  rw [List.countP_eq_length.mpr, List.length_map]
  intro y hy
  obtain ⟨d, hd, rfl⟩ := List.mem_map.mp hy
  rw [h d hd]
  exact eqv_pr2 c
end Cu
set_option Elab.async false
set_option linter.all false
set_option maxRecDepth 100000
set_option maxHeartbeats 4000000
set_option exponentiation.threshold 5000
namespace Cu
open PySem PySem.Spec PyProof.Rows L2

theorem where_place {w h : Int} {b : Ball} (hw : 0 < w) (hh : 0 < h) (ok : OkBall w h b) (t : Int) : whereF w h b t = placeAt w h b t :=
  Prod.ext (lawPart_eq hw ok.x0 ok.x1 ok.dx) (lawPart_eq hh ok.y0 ok.y1 ok.dy)
theorem fit_of {w h t : Int} {b : Ball} (hw2 : w ≤ 10 ^ 30) (hh2 : h ≤ 10 ^ 30) (ok : OkBall w h b) (h0 : b.m ≤ t) (h1 : t < 2 ^ 1000) : Fit w h t b := by
  have e : (10 : Int) ^ 30 < 2 ^ 1000 := by decide
  refine ⟨lt_pow ok.x0 (by have := ok.x1; omega), lt_pow ok.y0 (by have := ok.y1; omega), ?_, ?_, lt_pow (by omega) (by have := ok.m0; omega)⟩
  · have z : (1 : Nat) < 2 ^ 1000 := Nat.one_lt_two_pow (by decide)
    have := ok.dx
    omega
  · have z : (1 : Nat) < 2 ^ 1000 := Nat.one_lt_two_pow (by decide)
    have := ok.dy
    omega
theorem tog_row {w h : Int} {a : Ball} {r : List Ball} (hw : 0 < w) (hw2 : w ≤ 10 ^ 30) (hh : 0 < h) (hh2 : h ≤ 10 ^ 30) (ok : ∀ b ∈ a :: r, OkBall w h b) (hr : r.length ≤ 2) {c : Int × Int} (hc : c ∈ tog w h a r) :
    0 < c.2 ∧ (∀ b ∈ a :: r, b.m ≤ c.1) ∧ c.1 + c.2 < 2 ^ 1000 ∧ (∀ b ∈ a :: r, placeAt w h b c.1 = placeAt w h a c.1) ∧ ∀ b ∈ a :: r, placeAt w h b (c.1 + c.2) = placeAt w h a (c.1 + c.2) := by
  have cl := togCl_cl (a := a) hw hw2 hh hh2 r.reverse
  obtain ⟨h1, h2, h3, d, hd, e, i1, i2⟩ := from_mem (fun d hd => (cl d hd).pos) hc
  have oa := ok a List.mem_cons_self
  have or' : ∀ b ∈ r.reverse, OkBall w h b := fun b hb => ok b (List.mem_cons_of_mem _ (List.mem_reverse.mp hb))
  have m1 := (tog_meet hw hw2 hh hh2 oa c.1 r.reverse or').mp ⟨d, hd, i1⟩
  have m2 := (tog_meet hw hw2 hh hh2 oa (c.1 + c.2) r.reverse or').mp ⟨d, hd, i2⟩
  have mx1 := (mx_spec a.m (r.map Ball.m)).2
  have mx0 := (mx_spec a.m (r.map Ball.m)).1
  refine ⟨h1, fun b hb => ?_, ?_, fun b hb => ?_, fun b hb => ?_⟩
  · refine Int.le_trans (mx1 b.m ?_) h2
    rcases List.mem_cons.mp hb with rfl | hb
    · exact List.mem_cons_self
    · exact List.mem_cons_of_mem _ (List.mem_map.mpr ⟨b, hb, rfl⟩)
  · have l1 : c.2 < 2 ^ 900 := by
      rw [← e]
      exact ((cl d hd).mono (by rw [List.length_reverse]; omega)).lt
    have l2 : mx a.m (r.map Ball.m) ≤ 10 ^ 30 := by
      rcases List.mem_cons.mp mx0 with q | q
      · rw [q]
        exact oa.m1
      · obtain ⟨b, hb, q⟩ := List.mem_map.mp q
        rw [← q]
        exact (ok b (List.mem_cons_of_mem _ hb)).m1
    have e1 : (10 : Int) ^ 30 < 2 ^ 900 := by decide
    have e2 : (2 : Int) ^ 900 * 3 < 2 ^ 1000 := by decide
    omega
  · rcases List.mem_cons.mp hb with rfl | hb
    · rfl
    · exact (m1 b (List.mem_reverse.mpr hb)).symm
  · rcases List.mem_cons.mp hb with rfl | hb
    · rfl
    · exact (m2 b (List.mem_reverse.mpr hb)).symm
theorem half_row {w h : Int} {a b : Ball} (hw : 0 < w) (hw2 : w ≤ 10 ^ 30) (hh : 0 < h) (hh2 : h ≤ 10 ^ 30) {c : Int × Int} (hc : c ∈ halfs w h a b) :
    0 < c.2 ∧ a.m ≤ c.1 ∧ b.m ≤ c.1 ∧ middleF w h a c.1 = middleF w h b c.1 ∧ middleF w h a (c.1 + c.2) = middleF w h b (c.1 + c.2) := by
  obtain ⟨h1, h2, h3, d, hd, e, i1, i2⟩ := from_mem (fun d hd => (pairCl_cl hw hw2 hh hh2 d hd).pos) hc
  exact ⟨h1, by omega, by omega, (pair_half hw hw2 hh hh2 c.1).mp ⟨d, hd, i1⟩, (pair_half hw hw2 hh hh2 (c.1 + c.2)).mp ⟨d, hd, i2⟩⟩
theorem half_pos {w h : Int} {a b : Ball} (hw : 0 < w) (hw2 : w ≤ 10 ^ 30) (hh : 0 < h) (hh2 : h ≤ 10 ^ 30) : ∀ c ∈ halfs w h a b, 0 < c.2 := fun c hc => (half_row hw hw2 hh hh2 hc).1
theorem half_len (w h : Int) (a b : Ball) : (halfs w h a b).length ≤ 1000 := by
  unfold halfs
  rw [fromMin_len]
  exact Nat.le_trans (pairCl_len w h a b true) (by decide)
theorem half_isIn {w h : Int} {a b : Ball} (hw : 0 < w) (hw2 : w ≤ 10 ^ 30) (hh : 0 < h) (hh2 : h ≤ 10 ^ 30) {t : Int} (ha : a.m ≤ t) (hb : b.m ≤ t) : isInF (halfs w h a b) t = decide (middleF w h a t = middleF w h b t) := by
  have e : isInF (halfs w h a b) t = true ↔ middleF w h a t = middleF w h b t := (isIn_iff (fun d hd => (pairCl_cl hw hw2 hh hh2 d hd).pos) (by omega)).trans (pair_half hw hw2 hh hh2 t)
  by_cases c : middleF w h a t = middleF w h b t
  · rw [decide_eq_true c]
    exact e.mpr c
  · rw [decide_eq_false c]
    cases q : isInF (halfs w h a b) t with
    | false => rfl
    | true => exact absurd (e.mp q) c
theorem tog_isIn {w h : Int} {a : Ball} {r : List Ball} (hw : 0 < w) (hw2 : w ≤ 10 ^ 30) (hh : 0 < h) (hh2 : h ≤ 10 ^ 30) (ok : ∀ b ∈ a :: r, OkBall w h b) {t : Int} (ht : ∀ b ∈ a :: r, b.m ≤ t) (hm : ∀ b ∈ r, placeAt w h a t = placeAt w h b t) : isInF (tog w h a r) t = true := by
  have cl := togCl_cl (a := a) hw hw2 hh hh2 r.reverse
  refine (isIn_iff (fun d hd => (cl d hd).pos) ?_).mpr ((tog_meet hw hw2 hh hh2 (ok a List.mem_cons_self) t r.reverse fun b hb => ok b (List.mem_cons_of_mem _ (List.mem_reverse.mp hb))).mpr fun b hb => hm b (List.mem_reverse.mp hb))
  have mx0 := (mx_spec a.m (r.map Ball.m)).1
  rcases List.mem_cons.mp mx0 with q | q
  · rw [q]
    exact ht a List.mem_cons_self
  · obtain ⟨b, hb, q⟩ := List.mem_map.mp q
    rw [← q]
    exact ht b (List.mem_cons_of_mem _ hb)
theorem tog_len {w h : Int} {a : Ball} {r : List Ball} (hr : r.length ≤ 2) : (tog w h a r).length ≤ 1000 := by
  unfold tog
  rw [fromMin_len]
  refine Nat.le_trans (togCl_len w h a r.reverse) (Nat.le_trans (Nat.pow_le_pow_right (by decide) (show r.reverse.length ≤ 2 by rw [List.length_reverse]; exact hr)) (by decide))
theorem eqv_pr (c d : Int × Int) : PyData.eqv (pr2 c) (pr2 d) = decide (c = d) := by
  show ((c.1 == d.1) && ((c.2 == d.2) && true)) = _
  rw [Bool.and_true]
  by_cases h : c = d
  · subst h
    simp
  · rw [decide_eq_false h]
    by_cases q : c.1 = d.1
    · have q2 : ¬ c.2 = d.2 := fun z => h (Prod.ext q z)
      simp [q, q2]
    · simp [q]
theorem eqv_opt (o : Option Int) : PyData.eqv (optI o) (optI o) = true := by
  cases o with
  | none => rfl
  | some i => exact beq_self_eq_true i
theorem shaped_opt (o : Option Int) : SeqAt.shaped (optI o) = true := by cases o <;> rfl
theorem nm_ok {w h : Int} {b : Ball} (ok : OkBall w h b) : PyData.canLay0 (.str b.nm) = true := by
  obtain ⟨c, e, h1, h2⟩ := ok.nm
  rw [e]
  have : c = 97 ∨ c = 98 ∨ c = 99 := by omega
  rcases this with rfl | rfl | rfl <;> decide +kernel
theorem most_shaped {w h : Int} {a : Ball} {r : List Ball} {t : Int} (hr : r.length ≤ 2) (ok : ∀ b ∈ a :: r, PyData.canLay0 (.str b.nm) = true) : SeqAt.shaped (mostD w h a r t) = true := by
  have ha := ok a List.mem_cons_self
  match r, hr, ok with
  | [], _, _ =>
    refine Bool.and_eq_true_iff.mpr ⟨?_, decide_eq_true (Nat.le_of_ble_eq_true rfl)⟩
    show ((PyData.canLay0 (.str a.nm) && true) && true) = true
    rw [ha]
    rfl
  | [b], _, ok =>
    have hb := ok b (by simp)
    refine Bool.and_eq_true_iff.mpr ⟨?_, decide_eq_true (Nat.le_of_ble_eq_true rfl)⟩
    show ((PyData.canLay0 (.str a.nm) && (PyData.canLay0 (.str b.nm) && true)) && true) = true
    rw [ha, hb]
    rfl
  | [b, c], _, ok =>
    have hb := ok b (by simp)
    have hc := ok c (by simp)
    refine Bool.and_eq_true_iff.mpr ⟨?_, decide_eq_true (Nat.le_of_ble_eq_true rfl)⟩
    show ((PyData.canLay0 (.str a.nm) && (PyData.canLay0 (.str b.nm) && (PyData.canLay0 (.str c.nm) && true))) && true) = true
    rw [ha, hb, hc]
    rfl
theorem most_eqv {w h : Int} {a : Ball} {r : List Ball} {t : Int} (hr : r.length ≤ 2) : PyData.eqv (mostD w h a r t) (mostD w h a r t) = true := by
  have e := eqv_pr2 (placeAt w h a t)
  match r, hr with
  | [], _ =>
    show (((a.nm == a.nm) && true) && ((t == t) && (PyData.eqv (pr2 (placeAt w h a t)) (pr2 (placeAt w h a t)) && true))) = true
    rw [e]
    simp
  | [b], _ =>
    show (((a.nm == a.nm) && ((b.nm == b.nm) && true)) && ((t == t) && (PyData.eqv (pr2 (placeAt w h a t)) (pr2 (placeAt w h a t)) && true))) = true
    rw [e]
    simp
  | [b, c], _ =>
    show (((a.nm == a.nm) && ((b.nm == b.nm) && ((c.nm == c.nm) && true))) && ((t == t) && (PyData.eqv (pr2 (placeAt w h a t)) (pr2 (placeAt w h a t)) && true))) = true
    rw [e]
    simp
theorem map_at {α : Type} {xs : List α} {f : α → PyData} {i : Nat} {d : PyData} (h : (xs.map f)[i]? = some d) : ∃ x, xs[i]? = some x ∧ d = f x := by
  rw [List.getElem?_map] at h
  cases hx : xs[i]? with
  | none =>
    rw [hx] at h
    cases h
  | some x =>
    rw [hx] at h
    exact ⟨x, rfl, (Option.some.inj h).symm⟩
end Cu
set_option Elab.async false
set_option linter.all false
set_option maxRecDepth 100000
set_option maxHeartbeats 4000000
set_option exponentiation.threshold 5000
namespace Cu
open PySem PySem.Spec PyProof.Rows L2

abbrev rL (C : Addr) (W Hh : Int) (bs : List Ball) (t : Int) (made : Bool) (x8 x14 x15 x16 x17 x18 x19 x21 x22 x23 : Option Pd) : Rho :=
  [none, none, some (pI W), some (pI Hh), some (tab C W Hh), some (pL (bs.map Ball.d)), none, some (pI t), x8, some (pB made), none, none, none, none, x14, x15, x16, x17, x18, x19, none, x21, x22, x23]
section
variable {P : Program} {w : World} {K : PySem.W.Frag} {mg : Str → Option Value} {base : Heap} {C : Addr} {W Hh : Int}
theorem law_tail (T : Txt K mg C) (a b : Ball) (r : List Ball) (cz : Ball → Nat) (hcz : ∀ x ∈ a :: b :: r, x.nm = sgn (cz x)) (hpw : (a :: b :: r).Pairwise fun u v => cz u < cz v) (ok : Balls W Hh (a :: b :: r)) (hw : 0 < W) (hw2 : W ≤ 10 ^ 30) (hh : 0 < Hh) (hh2 : Hh ≤ 10 ^ 30)
    (t : Int) (ht : ∀ x ∈ a :: b :: r, x.m ≤ t) (t1 : t ≤ 10 ^ 31) (made : Bool) (hm : made = true → ∀ x ∈ b :: r, placeAt W Hh a t = placeAt W Hh x t)
    (f : Addr) (cdv : Value) (A : Around) (outer : List Env) (s' : Shared) (H : Hp) (E : XK) (hr : Room 7 (A.deeper (envOfC "law" (defScope sLaw) s'.heap.objs.size f cdv))) :
    Svs (CxC P w K mg base nLaw "law" (defScope sLaw) f cdv A outer s' H E) ((defBody sLaw).drop 9) (rL C W Hh (a :: b :: r) t made none none none none none none none none none none) (.rt (pB true)) := by
  have hl : (b :: r).length ≤ 2 := by
    have := ok.2.2.2
    rw [List.length_cons] at this
    omega
  have ob := ok.1
  have oa := ob a List.mem_cons_self
  have obb := ob b (by simp)
  have t0 : 0 ≤ t := by
    have := ht a List.mem_cons_self
    have := oa.m0
    omega
  have at0 : L2.atI ((a :: b :: r).map Ball.d) 0 = some a.d := L2.atI_nat (j := 0) rfl
  have at1 : L2.atI ((a :: b :: r).map Ball.d) 1 = some b.d := L2.atI_nat (j := 1) rfl
  have tp := fun c (hc : c ∈ tog W Hh a (b :: r)) => tog_row hw hw2 hh hh2 ob hl hc
  have wh : ∀ x ∈ a :: b :: r, ∀ u, whereF W Hh x u = placeAt W Hh x u := fun x hx u => where_place hw hh (ob x hx) u
  refine svs_cons (sv_set 14 scLaw.nd (ev_call (df_allTog T a (b :: r) ok hw hw2 hh hh2) hr (eva_cons (ev_var 4) (eva_cons (ev_listL T.zList (ev_var 5)) eva_nil))))
    (svs_cons (sv_for (ds := (tog W Hh a (b :: r)).map pr2) PassesOwn.never (evi_list (ev_var 14))
      (fun _ => rL C W Hh (a :: b :: r) t made none (some (pL ((tog W Hh a (b :: r)).map pr2))) none none none none none none none none)
      (fun i => rL C W Hh (a :: b :: r) t made none (some (pL ((tog W Hh a (b :: r)).map pr2))) (some (pI ((tog W Hh a (b :: r)).getD i (0, 0)).1)) (some (pI ((tog W Hh a (b :: r)).getD i (0, 0)).2)) none none none none none none) (fun _ => [15, 16])
      ⟨rfl, rfl, rfl, rfl, rfl, rfl, rfl, trivial⟩ (fun i d hd => ?_) (fun i d hd => ?_))
    (svs_cons (sv_ifno (evt_cast (evt_w (evw_and (evt_val (ev_var 9)) fun _ => evw_and1 (evt_not (evt_val (ev_call (df_lawIsIn T (tog W Hh a (b :: r)) t (fun c hc => (tp c hc).1) (tog_len hl)) (hr.mono (by decide)) (eva_cons (ev_var 14) (eva_cons (ev_var 7) eva_nil))))))) ?_))
    (svs_cons (ρ1 := rL C W Hh (a :: b :: r) t made none (some (pL ((tog W Hh a (b :: r)).map pr2))) none none none none none none none none)
      (sv_if (evt_gt (ev_lenL T.zLen (ev_var 14)) ev_int) (fun q => ?_) fun q => svs_nil)
    (svs_cons (sv_for (ds := (halfs W Hh a b).map pr2) PassesOwn.never (evi_list (ev_call (df_halfs T a b oa obb hw hw2 hh hh2) (hr.mono (by decide)) (eva_cons (ev_var 4) (eva_cons (ev_ixL (d := a.d) (ev_var 5) ev_int at0) (eva_cons (ev_ixL (d := b.d) (ev_var 5) ev_int at1) eva_nil)))))
      (fun _ => rL C W Hh (a :: b :: r) t made none none none none none none none none none none)
      (fun i => rL C W Hh (a :: b :: r) t made none none (some (pI ((halfs W Hh a b).getD i (0, 0)).1)) (some (pI ((halfs W Hh a b).getD i (0, 0)).2)) none none none none none none) (fun _ => [15, 16])
      ⟨rfl, rfl, rfl, rfl, rfl, rfl, trivial⟩ (fun i d hd => ?_) (fun i d hd => ?_))
    (svs_cons (sv_set 22 scLaw.nd (ev_call (df_halfs T a b oa obb hw hw2 hh hh2) (hr.mono (by decide)) (eva_cons (ev_var 4) (eva_cons (ev_ixL (d := a.d) (ev_var 5) ev_int at0) (eva_cons (ev_ixL (d := b.d) (ev_var 5) ev_int at1) eva_nil)))))
    (svs_cons (sv_ifno (evt_cast (evt_neD hr.units (ev_call (df_nextHalf T a b t oa obb hw hw2 hh hh2 t0 t1) hr (eva_cons (ev_var 4) (eva_cons (ev_ixL (d := a.d) (ev_var 5) ev_int at0) (eva_cons (ev_ixL (d := b.d) (ev_var 5) ev_int at1) (eva_cons (ev_var 7) eva_nil)))))
      (ev_call (df_lawNextIn T (halfs W Hh a b) t (half_pos hw hw2 hh hh2) (half_len W Hh a b)) (hr.mono (by decide)) (eva_cons (ev_var 22) (eva_cons (ev_var 7) eva_nil))) (shaped_opt _) (shaped_opt _)) ?_))
    (svs_cons (sv_set 23 scLaw.nd (ev_eqD (d := pr2 (middleF W Hh a t)) (d' := pr2 (middleF W Hh b t)) hr.units (ev_call (df_lawMiddle T a oa hw hh t (ht a List.mem_cons_self)) (hr.mono (by decide)) (eva_cons (ev_var 4) (eva_cons (ev_ixL (d := a.d) (ev_var 5) ev_int at0) (eva_cons (ev_var 7) eva_nil))))
      (ev_call (df_lawMiddle T b obb hw hh t (ht b (by simp))) (hr.mono (by decide)) (eva_cons (ev_var 4) (eva_cons (ev_ixL (d := b.d) (ev_var 5) ev_int at1) (eva_cons (ev_var 7) eva_nil))))))
    (svs_one (sv_ret' (ev_eqB (ev_var 23) (ev_call (df_lawIsIn T (halfs W Hh a b) t (half_pos hw hw2 hh hh2) (half_len W Hh a b)) (hr.mono (by decide)) (eva_cons (ev_call (df_halfs T a b oa obb hw hw2 hh hh2) (hr.mono (by decide)) (eva_cons (ev_var 4) (eva_cons (ev_ixL (d := a.d) (ev_var 5) ev_int at0) (eva_cons (ev_ixL (d := b.d) (ev_var 5) ev_int at1) eva_nil)))) (eva_cons (ev_var 7) eva_nil)))) ?_)))))))))
  · obtain ⟨c, hx, rfl⟩ := map_at hd
    rw [List.getD_eq_getElem?_getD, hx]
    exact tg_tup (tgs_cons (tg_name 15 scLaw.nd) (tgs_cons (tg_name 16 scLaw.nd) tgs_nil)) rfl
  · obtain ⟨c, hx, rfl⟩ := map_at hd
    rw [List.getD_eq_getElem?_getD, hx]
    obtain ⟨c0, cm, cb, cp, cq⟩ := tp c (List.mem_of_getElem? hx)
    have now_ok : ∀ u, u = c.1 ∨ u = c.1 + c.2 → (∀ x ∈ a :: b :: r, x.m ≤ u) ∧ u < 2 ^ 1000 ∧ ∀ x ∈ a :: b :: r, whereF W Hh x u = placeAt W Hh a u := fun u hu => by
      rcases hu with rfl | rfl
      · exact ⟨cm, by omega, fun x hx => (wh x hx _).trans (cp x hx)⟩
      · exact ⟨fun x hx => by have := cm x hx; omega, cb, fun x hx => (wh x hx _).trans (cq x hx)⟩
    refine svs_weak_end (svs_one (sv_for (ds := [.int c.1, .int (c.1 + c.2)]) PassesOwn.never (evi_list (ev_lst (evd_cons (ev_var 15) (evd_cons (ev_add (ev_var 15) (ev_var 16)) evd_nil))))
      (fun _ => rL C W Hh (a :: b :: r) t made none (some (pL ((tog W Hh a (b :: r)).map pr2))) (some (pI c.1)) (some (pI c.2)) none none none none none none)
      (fun j => rL C W Hh (a :: b :: r) t made none (some (pL ((tog W Hh a (b :: r)).map pr2))) (some (pI c.1)) (some (pI c.2)) (some (pI (if j = 0 then c.1 else c.1 + c.2))) none none none none none) (fun _ => [17])
      ⟨rfl, rfl, rfl, rfl, rfl, rfl, rfl, rfl, rfl, trivial⟩ (fun j d hd => ?_) (fun j d hd => ?_))) ⟨rfl, rfl, rfl, rfl, rfl, rfl, rfl, trivial⟩
    · match j, hd with
      | 0, hd =>
        cases hd
        exact tg_name 17 scLaw.nd
      | 1, hd =>
        cases hd
        exact tg_name 17 scLaw.nd
    · obtain ⟨n1, n2, n3⟩ := now_ok (if j = 0 then c.1 else c.1 + c.2) (by by_cases z : j = 0 <;> simp [z])
      generalize (if j = 0 then c.1 else c.1 + c.2) = now at n1 n2 n3 ⊢
      refine svs_weak_end (svs_cons (sv_setLc (xs := a :: b :: r) (enc := Ball.d) (pr := fun _ => true) (gd := fun x => pr2 (whereF W Hh x now)) 18 [("_law_ball_here", 8)] scLaw.nd (blkOk_by (N := nLaw) (sc := defScope sLaw) (by decide +kernel)) (evi_list (ev_var 5)) (by decide)
          (fun x hx s H C cl fp => tg_name 8 scLaw.nd) (fun x hx s H C cl fp => evts_nil)
          (fun x hx _ s H C cl fp => ev_call (df_lawWhere T x now (fit_of hw2 hh2 (ob x hx) (n1 x hx) n2) hw hw2 hh hh2) (hr.mono (by decide)) (eva_cons (ev_var 2) (eva_cons (ev_var 3) (eva_cons (ev_var 8) (eva_cons (ev_var 17) eva_nil)))))
          (fun x hx => rfl) (by rw [List.length_cons]; omega) (sw_true rfl rfl rfl (by decide +kernel)))
        (svs_one (sv_ifno (evt_cast (evt_ne (ev_count (ds := ((a :: b :: r).map fun x => whereF W Hh x now).map pr2) (d := pr2 (placeAt W Hh a now)) hr.units (ev_cast (ev_var 18) ?_) (ev_ixL (d := pr2 (placeAt W Hh a now)) (ev_var 18) ev_int (L2.atI_nat (j := 0) ?_)) (plain_pr2 _) rfl (Nat.le_of_ble_eq_true rfl)) (ev_lenL T.zLen (ev_var 18))) ?_)))) ⟨rfl, rfl, rfl, rfl, rfl, rfl, rfl, rfl, rfl, trivial⟩
      · rw [filter_yes, List.map_map]
        rfl
      · show some (pr2 (whereF W Hh a now)) = _
        rw [n3 a List.mem_cons_self]
      · rw [count_all (c := placeAt W Hh a now) (fun d hd => by
          obtain ⟨x, hx, rfl⟩ := List.mem_map.mp hd
          exact n3 x hx), filter_yes, List.length_map, List.length_map, decide_eq_true rfl]
        rfl
  · cases hmd : made with
    | false => rfl
    | true => rw [tog_isIn hw hw2 hh hh2 ob ht (hm hmd)]; rfl
  · cases ht' : tog W Hh a (b :: r) with
    | nil =>
      rw [ht'] at q
      cases q
    | cons c rs =>
      have hc : c ∈ tog W Hh a (b :: r) := by rw [ht']; exact List.mem_cons_self
      obtain ⟨c0, cm, cb, cp, cq⟩ := tp c hc
      have lst := from_least ht'
      refine svs_weak_end (svs_cons (sv_set 19 scLaw.nd (ev_minL (ns := (c :: rs).map Prod.fst) (m := c.1) T.zMin (ev_cast (ev_lc (xs := c :: rs) (enc := pr2) (pr := fun _ => true) (gd := fun c => .int c.1) [("_law_row_here", 20)] scLaw.nd (blkOk_by (N := nLaw) (sc := defScope sLaw) (by decide +kernel))
          (evi_list (ev_var 14)) (by decide) (fun x hx s H C cl fp => tg_name 20 scLaw.nd) (fun x hx s H C cl fp => evts_nil) (fun x hx _ s H C cl fp => ev_ixT (d := .int x.1) (ev_var 20) ev_int) (fun x hx => rfl) (by rw [← ht']; exact tog_len hl)) ?_) ?_ ?_))
        (svs_cons (sv_set 21 scLaw.nd (ev_tupleL T.zTuple (ev_lc (xs := a :: b :: r) (enc := Ball.d) (pr := fun _ => true) (gd := fun x => .str x.nm) [("_law_ball_here", 8)] scLaw.nd (blkOk_by (N := nLaw) (sc := defScope sLaw) (by decide +kernel)) (evi_list (ev_var 5)) (by decide)
          (fun x hx s H C cl fp => tg_name 8 scLaw.nd) (fun x hx s H C cl fp => evts_nil) (fun x hx _ s H C cl fp => ev_ixT (d := .str x.nm) (ev_var 8) ev_int) (fun x hx => rfl) (by rw [List.length_cons]; omega))))
        (svs_one (sv_ifno (evt_cast (evt_neD (d := mostD W Hh a (b :: r) c.1) (d' := mostD W Hh a (b :: r) c.1) hr.units (ev_call (df_most T a (b :: r) cz hcz hpw (by rw [List.length_cons]; omega) ok hw hw2 hh hh2 c rs ht' (cm a List.mem_cons_self)) hr (eva_cons (ev_var 4) (eva_cons (ev_listL T.zList (ev_var 5)) eva_nil)))
          (ev_cast (ev_tup (evd_cons (ev_var 21) (evd_cons (ev_var 19) (evd_cons (ev_call (df_lawWhere T a c.1 (fit_of hw2 hh2 oa (cm a List.mem_cons_self) (by omega)) hw hw2 hh hh2) (hr.mono (by decide)) (eva_cons (ev_var 2) (eva_cons (ev_var 3) (eva_cons (ev_ixL (d := a.d) (ev_var 5) ev_int at0) (eva_cons (ev_var 19) eva_nil))))) evd_nil)))) ?_)
          (most_shaped hl fun x hx => nm_ok (ob x hx)) (most_shaped hl fun x hx => nm_ok (ob x hx))) ?_))))) ⟨rfl, rfl, rfl, rfl, rfl, rfl, rfl, trivial⟩
      · rw [filter_yes, ints_map]
      · exact List.mem_cons_self
      · intro y hy
        obtain ⟨d, hd, rfl⟩ := List.mem_map.mp hy
        exact lst d hd
      · rw [filter_yes, wh a List.mem_cons_self]
        rfl
      · rw [most_eqv hl]
        rfl
  · obtain ⟨c, hx, rfl⟩ := map_at hd
    rw [List.getD_eq_getElem?_getD, hx]
    exact tg_tup (tgs_cons (tg_name 15 scLaw.nd) (tgs_cons (tg_name 16 scLaw.nd) tgs_nil)) rfl
  · obtain ⟨c, hx, rfl⟩ := map_at hd
    rw [List.getD_eq_getElem?_getD, hx]
    obtain ⟨c0, ca, cb, m1, m2⟩ := half_row hw hw2 hh hh2 (List.mem_of_getElem? hx)
    have now_ok : ∀ u, u = c.1 ∨ u = c.1 + c.2 → a.m ≤ u ∧ b.m ≤ u ∧ middleF W Hh a u = middleF W Hh b u := fun u hu => by
      rcases hu with rfl | rfl
      · exact ⟨ca, cb, m1⟩
      · exact ⟨by omega, by omega, m2⟩
    refine svs_weak_end (svs_one (sv_for (ds := [.int c.1, .int (c.1 + c.2)]) PassesOwn.never (evi_list (ev_lst (evd_cons (ev_var 15) (evd_cons (ev_add (ev_var 15) (ev_var 16)) evd_nil))))
      (fun _ => rL C W Hh (a :: b :: r) t made none none (some (pI c.1)) (some (pI c.2)) none none none none none none)
      (fun j => rL C W Hh (a :: b :: r) t made none none (some (pI c.1)) (some (pI c.2)) (some (pI (if j = 0 then c.1 else c.1 + c.2))) none none none none none) (fun _ => [17])
      ⟨rfl, rfl, rfl, rfl, rfl, rfl, rfl, rfl, trivial⟩ (fun j d hd => ?_) (fun j d hd => ?_))) ⟨rfl, rfl, rfl, rfl, rfl, rfl, trivial⟩
    · match j, hd with
      | 0, hd =>
        cases hd
        exact tg_name 17 scLaw.nd
      | 1, hd =>
        cases hd
        exact tg_name 17 scLaw.nd
    · obtain ⟨n1, n2, n3⟩ := now_ok (if j = 0 then c.1 else c.1 + c.2) (by by_cases z : j = 0 <;> simp [z])
      generalize (if j = 0 then c.1 else c.1 + c.2) = now at n1 n2 n3 ⊢
      refine svs_weak_end (svs_one (sv_ifno (evt_cast (evt_neD (d := pr2 (middleF W Hh a now)) (d' := pr2 (middleF W Hh b now)) hr.units (ev_call (df_lawMiddle T a oa hw hh now n1) (hr.mono (by decide)) (eva_cons (ev_var 4) (eva_cons (ev_ixL (d := a.d) (ev_var 5) ev_int at0) (eva_cons (ev_var 17) eva_nil))))
        (ev_call (df_lawMiddle T b obb hw hh now n2) (hr.mono (by decide)) (eva_cons (ev_var 4) (eva_cons (ev_ixL (d := b.d) (ev_var 5) ev_int at1) (eva_cons (ev_var 17) eva_nil))))) ?_))) ⟨rfl, rfl, rfl, rfl, rfl, rfl, rfl, rfl, trivial⟩
      rw [n3, eqv_pr2]
      rfl
  · have e : nextHalf W Hh a b t = minO ((halfs W Hh a b).map (nextF t)) := by
      unfold nextHalf
      congr 1
      exact List.map_congr_left fun c hc => later_next (half_pos hw hw2 hh hh2 c hc)
    rw [e, eqv_opt]
    rfl
  · rw [half_isIn hw hw2 hh hh2 (ht a List.mem_cons_self) (ht b (by simp)), eqv_pr, decide_eq_true rfl]
end
end Cu
set_option Elab.async false
set_option linter.all false
set_option maxRecDepth 100000
set_option maxHeartbeats 4000000
set_option exponentiation.threshold 5000
namespace Cu
open PySem PySem.Spec PyProof.Rows L2

section
variable {w h : Int}
theorem place_rng {b : Ball} (hw : 0 < w) (hh : 0 < h) (ok : OkBall w h b) (t : Int) : (0 ≤ (placeAt w h b t).1 ∧ (placeAt w h b t).1 ≤ w) ∧ (0 ≤ (placeAt w h b t).2 ∧ (placeAt w h b t).2 ≤ h) :=
  ⟨part_rng hw ok.x0 ok.x1, part_rng hh ok.y0 ok.y1⟩
theorem led_ok (hw : 0 < w) (hh : 0 < h) {nm : Str} {pt hd : Int × Int} {t m : Int} (hn : ∃ c : Nat, nm = sgn c ∧ 97 ≤ c ∧ c ≤ 99) (p1 : 0 ≤ pt.1 ∧ pt.1 ≤ w) (p2 : 0 ≤ pt.2 ∧ pt.2 ≤ h) (hz : ¬ (hd.1 = 0 ∧ hd.2 = 0)) (m0 : 0 ≤ m) (m1 : m ≤ 10 ^ 30) :
    OkBall w h (ledF w h nm pt hd t m) := by
  obtain ⟨a1, a2, a3, a4⟩ := back_ok (hd := hd.1) (t := t - m) hw p1.1 p1.2
  obtain ⟨b1, b2, b3, b4⟩ := back_ok (hd := hd.2) (t := t - m) hh p2.1 p2.2
  exact ⟨hn, a1, a2, b1, b2, a3, b3, fun z => hz ⟨a4.mp z.1, b4.mp z.2⟩, m0, m1⟩
theorem led_here (hw : 0 < w) (hh : 0 < h) {nm : Str} {pt hd : Int × Int} {t m : Int} (p1 : 0 ≤ pt.1 ∧ pt.1 ≤ w) (p2 : 0 ≤ pt.2 ∧ pt.2 ≤ h) : placeAt w h (ledF w h nm pt hd t m) t = pt :=
  Prod.ext (back_here hw p1.1 p1.2) (back_here hh p2.1 p2.2)
theorem led_there (hw : 0 < w) (hh : 0 < h) {nm : Str} {pt q : Int × Int} {t m : Int} (p1 : 0 ≤ pt.1 ∧ pt.1 ≤ w) (p2 : 0 ≤ pt.2 ∧ pt.2 ≤ h) (q1 : 0 ≤ q.1 ∧ q.1 ≤ w) (q2 : 0 ≤ q.2 ∧ q.2 ≤ h)
    (d1 : q.1 - pt.1 = -1 ∨ q.1 - pt.1 = 0 ∨ q.1 - pt.1 = 1) (d2 : q.2 - pt.2 = -1 ∨ q.2 - pt.2 = 0 ∨ q.2 - pt.2 = 1) : placeAt w h (ledF w h nm pt (q.1 - pt.1, q.2 - pt.2) t m) (t + 1) = q := by
  have e : t + 1 - m = t - m + 1 := by omega
  refine Prod.ext ?_ ?_
  · show partAt w _ _ (t + 1 - m) = q.1
    rw [e]
    exact back_there hw p1.1 p1.2 q1.1 q1.2 d1
  · show partAt h _ _ (t + 1 - m) = q.2
    rw [e]
    exact back_there hh p2.1 p2.2 q2.1 q2.2 d2
/-- one minute on: by at most one either way, and some way -/
theorem place_step {b : Ball} (hw : 0 < w) (hh : 0 < h) (ok : OkBall w h b) (t : Int) :
    ((placeAt w h b t).1 - (placeAt w h b (t + 1)).1 = -1 ∨ (placeAt w h b t).1 - (placeAt w h b (t + 1)).1 = 0 ∨ (placeAt w h b t).1 - (placeAt w h b (t + 1)).1 = 1) ∧
      ((placeAt w h b t).2 - (placeAt w h b (t + 1)).2 = -1 ∨ (placeAt w h b t).2 - (placeAt w h b (t + 1)).2 = 0 ∨ (placeAt w h b t).2 - (placeAt w h b (t + 1)).2 = 1) ∧
      ¬ ((placeAt w h b t).1 - (placeAt w h b (t + 1)).1 = 0 ∧ (placeAt w h b t).2 - (placeAt w h b (t + 1)).2 = 0) := by
  have s1 := part_step (s := b.dx) (t := t - b.m) hw ok.x0 ok.x1
  have s2 := part_step (s := b.dy) (t := t - b.m) hh ok.y0 ok.y1
  have e : t + 1 - b.m = t - b.m + 1 := by omega
  have nz := ok.nz
  unfold placeAt
  rw [e]
  show (partAt w b.x b.dx (t - b.m) - partAt w b.x b.dx (t - b.m + 1) = -1 ∨ _ = 0 ∨ _ = 1) ∧ (partAt h b.y b.dy (t - b.m) - partAt h b.y b.dy (t - b.m + 1) = -1 ∨ _ = 0 ∨ _ = 1) ∧ ¬ (partAt w b.x b.dx (t - b.m) - partAt w b.x b.dx (t - b.m + 1) = 0 ∧ partAt h b.y b.dy (t - b.m) - partAt h b.y b.dy (t - b.m + 1) = 0)
  omega
end
/-! ### a list that a comprehension makes -/
theorem tLc_ofF {α : Type} {ρ : Rho} {xs : List α} {enc : α → PyData} {vs is : List Nat} {ρx : α → Rho} {pr : α → Bool} {gd : α → PyData} (hf : ∀ x ∈ xs, flat (gd x) = true) (his : ∀ i ∈ is, i ∈ vs) (hz : xs.length ≤ 1000) (σ : L2.St) (H : Hp) (Q : VK)
    (q : StOk H σ ρ ∧ ∀ l H', H l = none → Same H H' → Dr H' (.ref l) (.list ((xs.filter pr).map gd)) → Q (.ref l) H') :
    tLc (tEvI ρ (xs.map enc)) (fun v σ H Q => ∃ x, x ∈ xs ∧ gTo (dat (enc x)) (rwipe ρ vs) (ρx x) is v σ H Q) (fun σ H Q => ∃ x, x ∈ xs ∧ tEvT (ρx x) (pr x) σ H Q)
      (fun σ H Q => ∃ x, (x ∈ xs ∧ pr x = true) ∧ tEv (ρx x) (dat (gd x)) σ H Q) vs σ H Q := by
  obtain ⟨st, k⟩ := q
  refine ⟨st, fun J H1 e1 y D hD => ?_⟩
  have hD0 : H D = none := by
    cases h : H D with
    | none => rfl
    | some o =>
      rw [e1 _ _ h] at hD
      cases hD
  refine ⟨fun i m H' => i + m = xs.length ∧ Same H1 H' ∧ ∃ acc, H' D = some (.lst acc) ∧ DrA H' acc (((xs.take i).filter pr).map gd), ⟨xs.length, Nat.zero_add _, same_new hD, [], upd_same, .nil⟩, ?_⟩
  rintro i m H' ⟨hi, e, acc, hacc, qa⟩
  have ly : (xs.map enc).length = xs.length := List.length_map _
  by_cases h0 : i < xs.length
  · have hx : xs[i]? = some xs[i] := List.getElem?_eq_getElem h0
    have hmem : xs[i] ∈ xs := List.getElem_mem h0
    refine .inr ⟨y.go i H' e (by rw [ly]; exact h0), fun H3 => Same H1 H3 ∧ ∃ acc, H3 D = some (.lst acc) ∧ DrA H3 acc (((xs.take (i + 1)).filter pr).map gd), fun H3 q3 => ⟨m - 1, by omega, by omega, q3⟩, fun v H2 hy => ?_⟩
    obtain ⟨e2, d, hd, r⟩ := y.yld i H' v H2 e (by rw [ly]; exact h0) hy
    rw [List.getElem?_map, hx] at hd
    cases hd
    have stw : StOk H2 (wipe σ vs) (rwipe ρ vs) := ((st.mono e1).mono (e.trans e2)).wipe vs
    have et : xs.take (i + 1) = xs.take i ++ [xs[i]] := by
      rw [List.take_add_one, hx]
      rfl
    refine ⟨xs[i], hmem, r, stw, fun σ2 st2 ag => ⟨wipe_agree ag his, xs[i], hmem, st2, fun H3 e3 => ?_⟩⟩
    have qa3 := (qa.mono e2).mono e3
    have hacc3 := e3 _ _ (e2 _ _ hacc)
    cases hp : pr xs[i] with
    | false =>
      refine iteF ⟨e.trans (e2.trans e3), acc, hacc3, ?_⟩
      rw [et, List.filter_append, List.map_append, List.filter_cons, if_neg (by rw [hp]; decide), List.filter_nil, List.map_nil, List.append_nil]
      exact qa3
    | true =>
      refine iteT ⟨xs[i], ⟨hmem, hp⟩, st2.mono e3, fun z H4 e4 r4 => ⟨acc, e4 _ _ hacc3, ?_, ?_⟩⟩
      · rw [qa.length, List.length_map]
        refine small1000 (Nat.le_trans (List.length_filter_le _ _) ?_)
        rw [List.length_take]
        omega
      · have hD1 : ∀ b o, H1 b = some o → b ≠ D := fun b o hb => ne_of_none hb hD
        have hacc4 := e4 _ _ hacc3
        refine ⟨fun b o hb => ?_, _, upd_same, ?_⟩
        · rw [upd_ne (hD1 b o hb)]
          exact e4 _ _ (e3 _ _ (e2 _ _ (e _ _ hb)))
        · rw [et, List.filter_append, List.map_append, List.filter_cons, if_pos hp, List.filter_nil]
          refine ((qa3.mono e4).upd hacc4 (flatA_all fun d hd => ?_)).append (.one (Dr.upd hacc4 (hf _ hmem) r4))
          obtain ⟨w', hw', rfl⟩ := List.mem_map.mp hd
          exact hf w' (List.mem_of_mem_take (List.mem_filter.mp hw').1)
  · have hi' : i = xs.length := by omega
    subst hi'
    refine .inl ⟨?_, ?_⟩
    · rw [← ly]
      exact y.stop H' e
    · rw [List.take_length] at qa
      exact k _ H' hD0 (e1.trans e) (.lst hacc qa)
section
variable {X : Cx} {ρ : Rho} {tg : Expr} {spos pos : Pos} {rest : List Stmt} {α : Type} {xs : List α} {enc : α → PyData} {is : List Nat} {ρx : α → Rho} {pr : α → Bool} {gd : α → PyData} {elt iter : Expr} {ifs : List Expr} {scope : Scope}
theorem ps_newLc (i : Nat) {y : Str} {py : Pos} {ρ0 ρ' : Addr → Rho} {Q : Addr → Pd} (own : List (Str × Nat)) (hN : X.N.Nodup) (ok : BlkOk X.N X.env.scope scope own) (hi : EvI X tg iter ρ (xs.map enc)) (his : ∀ i ∈ is, i ∈ own.map (·.2))
    (hg : ∀ x ∈ xs, BlkP X scope fun Y => Tg Y tg (dat (enc x)) (rwipe ρ (own.map (·.2))) (ρx x) is) (ht : ∀ x ∈ xs, BlkP X scope fun Y => EvTs Y ifs (ρx x) (pr x))
    (he : ∀ x ∈ xs, pr x = true → BlkP X scope fun Y => Ev Y elt (ρx x) (dat (gd x))) (hf : ∀ x ∈ xs, flat (gd x) = true) (hz : xs.length ≤ 1000)
    (h : ∀ D, Sos X D rest (ρ' D) (.rt (Q D))) (hfs : ∀ D, RhoTo (Fs D) ρ (ρ0 D)) (hr : ∀ D, rset (ρ0 D) i (some (pOwn D ((xs.filter pr).map gd))) = ρ' D)
    (hsw : swapsWith (.ListComp elt [⟨tg, iter, ifs, 0⟩] scope pos) (some (.Name y py)) spos.line X.env = pure true) (hc : X.calm = true := by rfl) (hy : X.N[i]? = some y := by rfl) (hyl : X.env.scope.names.lookup y = some .local := by rfl)
    (hs : ∀ x, foldedSetIterable iter X.env x = pure x := by intro _; rfl) :
    PSs X (.Assign [.Name y py] (.ListComp elt [⟨tg, iter, ifs, 0⟩] scope pos) spos :: rest) (tFr ρ Q) :=
  pss_to (pss_cons (ps_setLc hc hN hy hyl hsw hi ok (lcG hg) (lcT ht) (lcE he) hs) (pss_D h)) fun E σ H ⟨st, k⟩ => tLc_ofF (ρ := ρ) (enc := enc) (ρx := ρx) (pr := pr) (gd := gd) hf his hz σ H (fun v H1 => ∃ D, tO D (ρ' D) (Out.rt (Q D)) E (σ.set i (some v)) H1) ⟨st, fun D H' hD e q => ⟨D, by
    rw [← hr D]
    exact (StOk.to (fun P P' v z => z H _ v hD e) (hfs D) st).set (P := pOwn D _) ⟨rfl, q⟩, fun v H'' e' q' => k D v H'' hD (((SameX.of e).trans e').fresh hD) q'⟩⟩
end
end Cu
set_option Elab.async false
set_option linter.all false
set_option maxRecDepth 100000
set_option maxHeartbeats 4000000
set_option exponentiation.threshold 5000
namespace Cu
open PySem PySem.Spec PyProof.Rows L2

def ball0 (ns : List Int) (w h : Int) (k : Nat) : Ball := greater ns (20 + 35 * k) w h (sgn (97 + k))
theorem ball0_ok {ns : List Int} (hn : Nums ns) {w h : Int} (hw : 0 < w) (hh : 0 < h) {k : Nat} (hk : k ≤ 2) : OkBall w h (ball0 ns w h k) ∧ (ball0 ns w h k).m < 10 ^ 29 := greater_ok hn _ hw hh _ (by omega) (by omega)
theorem ball0_nm (ns : List Int) (w h : Int) (k : Nat) : (ball0 ns w h k).nm = sgn (97 + k) := rfl
def dirs4 : List (Int × Int) := [(1, 1), (1, -1), (-1, 1), (-1, -1)]
def hdAt (k : Int) : Int × Int := dirs4.getD k.toNat (1, 1)
theorem hd_cases {k : Int} (h0 : 0 ≤ k) (h1 : k < 4) : k = 0 ∨ k = 1 ∨ k = 2 ∨ k = 3 := by omega
theorem hdAt_at {k : Int} (h0 : 0 ≤ k) (h1 : k < 4) : L2.atI (dirs4.map pr2) k = some (pr2 (hdAt k)) := by
  rcases hd_cases h0 h1 with rfl | rfl | rfl | rfl <;> rfl
theorem hdAt_ok {k : Int} (h0 : 0 ≤ k) (h1 : k < 4) : ¬ ((hdAt k).1 = 0 ∧ (hdAt k).2 = 0) := by
  rcases hd_cases h0 h1 with rfl | rfl | rfl | rfl <;> decide
/-- ball k led to the first ball's point -/
def ledK (ns : List Int) (w h t : Int) (k : Nat) : Ball := ledF w h (ball0 ns w h k).nm (whereF w h (ball0 ns w h 0) t) (hdAt (num ns (142 + k) % 4)) t (ball0 ns w h k).m
/-- the first i of the others are led -/
def ballI (ns : List Int) (w h t : Int) (i k : Nat) : Ball := if 1 ≤ k ∧ k ≤ i then ledK ns w h t k else ball0 ns w h k
/-- ball 1 led to where the first ball will be, head on -/
def ledH (ns : List Int) (w h t : Int) : Ball :=
  ledF w h (ball0 ns w h 1).nm (whereF w h (ball0 ns w h 0) (t + 1)) ((whereF w h (ball0 ns w h 0) t).1 - (whereF w h (ball0 ns w h 0) (t + 1)).1, (whereF w h (ball0 ns w h 0) t).2 - (whereF w h (ball0 ns w h 0) (t + 1)).2) t (ball0 ns w h 1).m
def ballE (ns : List Int) (w h t : Int) (n k : Nat) : Ball :=
  if num ns 141 % 3 = 1 then ballI ns w h t (n - 1) k else if num ns 141 % 3 = 2 ∧ k = 1 then ledH ns w h t else ball0 ns w h k
theorem abc_at {k : Nat} (h : k < 3) : L2.atI ("abc" : Str).cps.toList ((0 : Int) + (k : Nat)) = some (97 + k) := by
  have : k = 0 ∨ k = 1 ∨ k = 2 := by omega
  rcases this with rfl | rfl | rfl <;> decide +kernel
theorem mapR_at {n k : Nat} (f : Nat → Ball) (h : k < n) : L2.atI (((List.range n).map f).map Ball.d) ((k : Nat) : Int) = some (f k).d := L2.atI_nat (by
  rw [List.getElem?_map, List.getElem?_map, List.getElem?_range h]
  rfl)
theorem mapR_set {n j : Nat} (f g : Nat → Ball) (b : Ball) (hj : g j = b) (h : ∀ k, k ≠ j → g k = f k) : (((List.range n).map f).map Ball.d).set j b.d = ((List.range n).map g).map Ball.d := by
  apply List.ext_getElem?
  intro k
  rw [List.getElem?_set]
  by_cases e : j = k
  · subst e
    rw [if_pos rfl]
    by_cases hk : j < n
    · rw [if_pos (by simpa using hk), List.getElem?_map, List.getElem?_map, List.getElem?_range hk]
      show _ = some (g j).d
      rw [hj]
    · rw [if_neg (by simpa using hk)]
      exact (List.getElem?_eq_none (by simpa using hk)).symm
  · rw [if_neg e]
    by_cases hk : k < n
    · simp [hk, h k (Ne.symm e)]
    · simp [hk]
def ifBody : Option Stmt → List Stmt
  | some (Stmt.If _ b _ _) => b
  | _ => []
abbrev rO (D C : Addr) (W Hh : Int) (ns : List Int) (bs : List Ball) (x6 x7 x9 x10 x11 x12 x13 : Option Pd) : Rho :=
  [none, some (offL D (ns.map PyData.int)), some (pI W), some (pI Hh), some (tab C W Hh), some (pOwn D (bs.map Ball.d)), x6, x7, none, x9, x10, x11, x12, x13, none, none, none, none, none, none, none, none, none, none]
section
variable {P : Program} {w : World} {K : PySem.W.Frag} {mg : Str → Option Value} {base : Heap} {C : Addr} {W Hh : Int}
/-- if made: .. -/
theorem law_made (T : Txt K mg C) (ns : List Int) (hn : Nums ns) (n : Nat) (hn2 : n = 2 ∨ n = 3) (hw : 0 < W) (hw2 : W ≤ 10 ^ 30) (hh : 0 < Hh) (hh2 : Hh ≤ 10 ^ 30) (t : Int) (ht : ∀ k, k ≤ 2 → (ball0 ns W Hh k).m ≤ t ∨ n ≤ k) (t1 : t ≤ 10 ^ 31)
    (f : Addr) (cdv : Value) (A : Around) (outer : List Env) (s' : Shared) (H : Hp) (E : XK) (hr : Room 7 (A.deeper (envOfC "law" (defScope sLaw) s'.heap.objs.size f cdv))) (D : Addr) (hm : num ns 141 % 3 = 1) :
    Sos (CxC P w K mg base nLaw "law" (defScope sLaw) f cdv A outer s' H E) D (ifBody ((defBody sLaw)[7]?)) (rO D C W Hh ns ((List.range n).map (ball0 ns W Hh)) none (some (pI t)) (some (pB true)) none none none none)
      (.nx (rO D C W Hh ns ((List.range n).map (ballE ns W Hh t n)) none (some (pI t)) (some (pB true)) none none none none)) := by
  have big : (10 : Int) ^ 31 < 2 ^ 1000 := by decide
  have o0 := (ball0_ok hn hw hh (k := 0) (by omega)).1
  have h0 : (ball0 ns W Hh 0).m ≤ t := (ht 0 (by omega)).resolve_right (by omega)
  refine sos_cons (so_of (sv_set 10 scLaw.nd (ev_call (df_lawWhere T (ball0 ns W Hh 0) t (fit_of hw2 hh2 o0 h0 (by omega)) hw hw2 hh hh2) (hr.mono (by decide)) (eva_cons (ev_var 2) (eva_cons (ev_var 3) (eva_cons (ev_ixL (d := (ball0 ns W Hh 0).d) (ev_wk (ev_var 5) Wk.own) ev_int (mapR_at (n := n) (k := 0) _ (by omega))) (eva_cons (ev_var 7) eva_nil)))))))
    (sos_weak_end (sos_one (so_for (ds := rng 1 (((n : Nat) : Int) - 1).toNat) PassesOwn.never (evix_rng2 (lo := 1) (n := ((n : Nat) : Int)) T.zRange ev_int (ev_cast (ev_lenL T.zLen (ev_wk (ev_var 5) Wk.own)) (by rw [List.length_map, List.length_map, List.length_range])) (by omega))
      (fun i => rO D C W Hh ns ((List.range n).map (ballI ns W Hh t i)) none (some (pI t)) (some (pB true)) (some (dat (pr2 (whereF W Hh (ball0 ns W Hh 0) t)))) none none none)
      (fun i => rO D C W Hh ns ((List.range n).map (ballI ns W Hh t i)) (some (pI ((1 + i : Nat) : Int))) (some (pI t)) (some (pB true)) (some (dat (pr2 (whereF W Hh (ball0 ns W Hh 0) t)))) none none none) (fun _ => [6]) ?_ (fun i d hd => ?_) (fun i d hd => ?_))) ?_)
  · have e : (List.range n).map (ballI ns W Hh t 0) = (List.range n).map (ball0 ns W Hh) := List.map_congr_left fun k _ => if_neg (by omega)
    rw [e]
    exact ⟨rfl, rfl, rfl, rfl, rfl, rfl, rfl, rfl, trivial⟩
  · obtain ⟨hi, rfl⟩ := rng_at hd
    have e : (1 : Int) + (i : Nat) = ((1 + i : Nat) : Int) := by omega
    rw [e]
    exact tg_name 6 scLaw.nd
  · obtain ⟨hi, rfl⟩ := rng_at hd
    have hk : 1 + i < n := by omega
    have hb := hn.bd (142 + (1 + i))
    have bk : ballI ns W Hh t i (1 + i) = ball0 ns W Hh (1 + i) := if_neg (by omega)
    have st := mapR_set (n := n) (ballI ns W Hh t i) (ballI ns W Hh t (i + 1)) (ledK ns W Hh t (1 + i)) (j := 1 + i) (if_pos (by omega)) (fun k hk => by
      unfold ballI
      by_cases c : 1 ≤ k ∧ k ≤ i
      · rw [if_pos c, if_pos (by omega)]
      · rw [if_neg c, if_neg (by omega)])
    have ix : ∀ {X : Cx} {ρ : Rho} {e1 e2 : Expr} {pos : Pos}, Ev X e1 ρ (pOwn D (((List.range n).map (ballI ns W Hh t i)).map Ball.d)) → Ev X e2 ρ (pI ((1 + i : Nat) : Int)) → PlainIx e2 → Ev X (.Subscript e1 e2 pos) ρ (dat (ball0 ns W Hh (1 + i)).d) :=
      fun h1 h2 h3 => ev_ixL (ev_wk h1 Wk.own) h2 ((mapR_at _ hk).trans (by rw [bk])) h3
    refine sos_weak_end (sos_cons (so_of (sv_set 11 scLaw.nd (ev_ixL (d := pr2 (hdAt (num ns (142 + (1 + i)) % 4))) (ev_cast (ev_lst (ds := dirs4.map pr2)
        (evd_cons (ev_tup (evd_cons ev_int (evd_cons ev_int evd_nil))) (evd_cons (ev_tup (evd_cons ev_int (evd_cons (ev_neg ev_int) evd_nil))) (evd_cons (ev_tup (evd_cons (ev_neg ev_int) (evd_cons ev_int evd_nil))) (evd_cons (ev_tup (evd_cons (ev_neg ev_int) (evd_cons (ev_neg ev_int) evd_nil))) evd_nil))))) rfl)
        (ev_mod (ev_toint T.zInt (ev_ixL (ev_wk (ev_var 1) Wk.off) (ev_cast (ev_add ev_int (ev_var 6)) (by rw [show (142 : Int) + ((1 + i : Nat) : Int) = ((142 + (1 + i) : Nat) : Int) by omega])) (hn.at _ (by omega)))) ev_int (by decide)) (hdAt_at (by omega) (by omega)))))
      (sos_one (so_put (ρ' := rO D C W Hh ns ((List.range n).map (ballI ns W Hh t (i + 1))) none (some (pI t)) (some (pB true)) (some (dat (pr2 (whereF W Hh (ball0 ns W Hh 0) t)))) none none none) (j := 1 + i) (d := (ledK ns W Hh t (1 + i)).d)
        (ev_call (df_lawLed T (ball0 ns W Hh (1 + i)).nm (whereF W Hh (ball0 ns W Hh 0) t) (hdAt (num ns (142 + (1 + i)) % 4)) t (ball0 ns W Hh (1 + i)).m hw hh) (hr.mono (by decide))
          (eva_cons (ev_var 2) (eva_cons (ev_var 3) (eva_cons (ev_ixT (d := .str (ball0 ns W Hh (1 + i)).nm) (ix (ev_var 5) (ev_var 6) fun _ _ => rfl) ev_int) (eva_cons (ev_var 10) (eva_cons (ev_var 11) (eva_cons (ev_var 7) (eva_cons (ev_ixT (d := .int (ball0 ns W Hh (1 + i)).m) (ix (ev_var 5) (ev_var 6) fun _ _ => rfl) ev_int) eva_nil))))))))
        (ev_var 5) (ev_var 6) (by rw [List.length_map, List.length_map, List.length_range]; exact hk) rfl (flat_balls _) ?_))) ⟨rfl, rfl, rfl, rfl, rfl, rfl, rfl, rfl, trivial⟩
    rw [st]
    exact ⟨.same (rob_off (flat_int _)), .same (rob_flat rfl), .same (rob_flat rfl), .same rob_tab, .own, .same (rob_flat rfl), .same (rob_flat rfl), .same (rob_flat rfl), trivial⟩
  · have e : (List.range n).map (ballE ns W Hh t n) = (List.range n).map (ballI ns W Hh t (rng 1 (((n : Nat) : Int) - 1).toNat).length) := List.map_congr_left fun k hk => by
      unfold ballE
      rw [if_pos hm, rng_len]
      congr 1
      omega
    rw [e]
    exact ⟨rfl, rfl, rfl, rfl, rfl, rfl, rfl, trivial⟩
end
end Cu
set_option Elab.async false
set_option linter.all false
set_option maxRecDepth 100000
set_option maxHeartbeats 4000000
set_option exponentiation.threshold 5000
namespace Cu
open PySem PySem.Spec PyProof.Rows L2

section
variable {W Hh : Int}
theorem ballE0 (ns : List Int) (t : Int) (n : Nat) : ballE ns W Hh t n 0 = ball0 ns W Hh 0 := by
  unfold ballE ballI
  by_cases c : num ns 141 % 3 = 1
  · rw [if_pos c, if_neg (by omega)]
  · rw [if_neg c, if_neg (by omega)]
theorem ballE_nm (ns : List Int) (t : Int) (n k : Nat) : (ballE ns W Hh t n k).nm = sgn (97 + k) := by
  unfold ballE ballI
  by_cases c : num ns 141 % 3 = 1
  · rw [if_pos c]
    by_cases d : 1 ≤ k ∧ k ≤ n - 1
    · rw [if_pos d]
      rfl
    · rw [if_neg d]
      rfl
  · rw [if_neg c]
    by_cases d : num ns 141 % 3 = 2 ∧ k = 1
    · rw [if_pos d, d.2]
      rfl
    · rw [if_neg d]
      rfl
theorem ballE_m (ns : List Int) (t : Int) (n k : Nat) : (ballE ns W Hh t n k).m = (ball0 ns W Hh k).m := by
  unfold ballE ballI
  by_cases c : num ns 141 % 3 = 1
  · rw [if_pos c]
    by_cases d : 1 ≤ k ∧ k ≤ n - 1
    · rw [if_pos d]
      rfl
    · rw [if_neg d]
  · rw [if_neg c]
    by_cases d : num ns 141 % 3 = 2 ∧ k = 1
    · rw [if_pos d, d.2]
      rfl
    · rw [if_neg d]
theorem ledH_ok {ns : List Int} (hn : Nums ns) (hw : 0 < W) (hh : 0 < Hh) (t : Int) : OkBall W Hh (ledH ns W Hh t) := by
  have o0 := (ball0_ok hn hw hh (k := 0) (by omega)).1
  have o1 := ball0_ok hn hw hh (k := 1) (by omega)
  have pr := place_rng hw hh o0 (t + 1)
  unfold ledH
  rw [where_place hw hh o0, where_place hw hh o0]
  exact led_ok hw hh ⟨98, rfl, by omega, by omega⟩ pr.1 pr.2 (place_step hw hh o0 t).2.2 o1.1.m0 o1.1.m1
theorem ledH_mid {ns : List Int} (hn : Nums ns) (hw : 0 < W) (hh : 0 < Hh) (t : Int) : middleF W Hh (ball0 ns W Hh 0) t = middleF W Hh (ledH ns W Hh t) t := by
  have o0 := (ball0_ok hn hw hh (k := 0) (by omega)).1
  have pr := place_rng hw hh o0 (t + 1)
  have qr := place_rng hw hh o0 t
  have ps := place_step hw hh o0 t
  have e1 : placeAt W Hh (ledH ns W Hh t) t = placeAt W Hh (ball0 ns W Hh 0) (t + 1) := by
    unfold ledH
    rw [where_place hw hh o0, where_place hw hh o0]
    exact led_here hw hh pr.1 pr.2
  have e2 : placeAt W Hh (ledH ns W Hh t) (t + 1) = placeAt W Hh (ball0 ns W Hh 0) t := by
    unfold ledH
    rw [where_place hw hh o0, where_place hw hh o0]
    exact led_there hw hh pr.1 pr.2 qr.1 qr.2 ps.1 ps.2.1
  unfold middleF
  rw [e1, e2, Int.add_comm, Int.add_comm (placeAt W Hh (ball0 ns W Hh 0) t).2]
theorem ballE_ok {ns : List Int} (hn : Nums ns) (hw : 0 < W) (hh : 0 < Hh) (t : Int) (n : Nat) {k : Nat} (hk : k ≤ 2) : OkBall W Hh (ballE ns W Hh t n k) := by
  have o0 := (ball0_ok hn hw hh (k := 0) (by omega)).1
  have ok := (ball0_ok hn hw hh hk).1
  have hb := hn.bd (142 + k)
  unfold ballE ballI
  by_cases c : num ns 141 % 3 = 1
  · rw [if_pos c]
    by_cases d : 1 ≤ k ∧ k ≤ n - 1
    · rw [if_pos d]
      unfold ledK
      rw [where_place hw hh o0]
      have pr := place_rng hw hh o0 t
      exact led_ok hw hh ⟨97 + k, rfl, by omega, by omega⟩ pr.1 pr.2 (hdAt_ok (by omega) (by omega)) ok.m0 ok.m1
    · rw [if_neg d]
      exact ok
  · rw [if_neg c]
    by_cases d : num ns 141 % 3 = 2 ∧ k = 1
    · rw [if_pos d]
      exact ledH_ok hn hw hh t
    · rw [if_neg d]
      exact ok
theorem ballE_made {ns : List Int} (hn : Nums ns) (hw : 0 < W) (hh : 0 < Hh) (t : Int) (n : Nat) {k : Nat} (hk : k ≤ n - 1) (h1 : 1 ≤ k) (hm : num ns 141 % 3 = 1) : placeAt W Hh (ballE ns W Hh t n 0) t = placeAt W Hh (ballE ns W Hh t n k) t := by
  have o0 := (ball0_ok hn hw hh (k := 0) (by omega)).1
  have pr := place_rng hw hh o0 t
  rw [ballE0]
  unfold ballE ballI
  rw [if_pos hm, if_pos ⟨h1, hk⟩]
  unfold ledK
  rw [where_place hw hh o0]
  exact (led_here hw hh pr.1 pr.2).symm
end
def czB (b : Ball) : Nat := b.nm.cps.toList.headD 0
section
variable {P : Program} {w : World} {K : PySem.W.Frag} {mg : Str → Option Value} {base : Heap} {C : Addr} {W Hh : Int}
theorem law_fin (T : Txt K mg C) (ns : List Int) (hn : Nums ns) (n : Nat) (hn2 : n = 2 ∨ n = 3) (hw : 0 < W) (hw2 : W ≤ 10 ^ 30) (hh : 0 < Hh) (hh2 : Hh ≤ 10 ^ 30) (t : Int) (ht : ∀ k, k ≤ 2 → (ball0 ns W Hh k).m ≤ t ∨ n ≤ k) (t1 : t ≤ 10 ^ 31) (made : Bool) (hm : made = true → num ns 141 % 3 = 1)
    (f : Addr) (cdv : Value) (A : Around) (outer : List Env) (s' : Shared) (H : Hp) (E : XK) (hr : Room 7 (A.deeper (envOfC "law" (defScope sLaw) s'.heap.objs.size f cdv))) :
    Svs (CxC P w K mg base nLaw "law" (defScope sLaw) f cdv A outer s' H E) ((defBody sLaw).drop 9) (rL C W Hh ((List.range n).map (ballE ns W Hh t n)) t made none none none none none none none none none none) (.rt (pB true)) := by
  have okE := fun k (hk : k ≤ 2) => ballE_ok hn hw hh t n hk
  have cz : ∀ k, czB (ballE ns W Hh t n k) = 97 + k := fun k => by
    unfold czB
    rw [ballE_nm]
    rfl
  have nm : ∀ k, (ballE ns W Hh t n k).nm = sgn (czB (ballE ns W Hh t n k)) := fun k => by rw [cz, ballE_nm]
  have nd : ∀ j k : Nat, j ≠ k → sgn (97 + j) ≠ sgn (97 + k) := fun j k h e => by
    have : (97 + j) = 97 + k := by
      have := congrArg (fun s : Str => s.cps.toList.headD 0) e
      exact this
    omega
  have tm : ∀ k, k < n → (ballE ns W Hh t n k).m ≤ t := fun k hk => by
    rw [ballE_m]
    exact (ht k (by omega)).resolve_right (by omega)
  rcases hn2 with rfl | rfl
  · have e : (List.range 2).map (ballE ns W Hh t 2) = [ballE ns W Hh t 2 0, ballE ns W Hh t 2 1] := rfl
    rw [e]
    refine law_tail T _ _ [] czB ?_ ?_ ?_ hw hw2 hh hh2 t ?_ t1 made ?_ f cdv A outer s' H E hr
    · intro x hx
      rcases (by simpa using hx : x = ballE ns W Hh t 2 0 ∨ x = ballE ns W Hh t 2 1) with rfl | rfl
      · exact nm 0
      · exact nm 1
    · simp [cz]
    · refine ⟨fun x hx => ?_, ?_, by simp, by simp⟩
      · rcases (by simpa using hx : x = ballE ns W Hh t 2 0 ∨ x = ballE ns W Hh t 2 1) with rfl | rfl
        · exact okE 0 (by omega)
        · exact okE 1 (by omega)
      · simp only [List.map_cons, List.map_nil, ballE_nm]
        simpa using nd 0 1 (by decide)
    · intro x hx
      rcases (by simpa using hx : x = ballE ns W Hh t 2 0 ∨ x = ballE ns W Hh t 2 1) with rfl | rfl
      · exact tm 0 (by omega)
      · exact tm 1 (by omega)
    · intro hmd x hx
      obtain rfl : x = ballE ns W Hh t 2 1 := by simpa using hx
      exact ballE_made hn hw hh t 2 (by omega) (by omega) (hm hmd)
  · have e : (List.range 3).map (ballE ns W Hh t 3) = [ballE ns W Hh t 3 0, ballE ns W Hh t 3 1, ballE ns W Hh t 3 2] := rfl
    rw [e]
    refine law_tail T _ _ [ballE ns W Hh t 3 2] czB ?_ ?_ ?_ hw hw2 hh hh2 t ?_ t1 made ?_ f cdv A outer s' H E hr
    · intro x hx
      rcases (by simpa using hx : x = ballE ns W Hh t 3 0 ∨ x = ballE ns W Hh t 3 1 ∨ x = ballE ns W Hh t 3 2) with rfl | rfl | rfl
      · exact nm 0
      · exact nm 1
      · exact nm 2
    · simp [cz]
    · refine ⟨fun x hx => ?_, ?_, by simp, by simp⟩
      · rcases (by simpa using hx : x = ballE ns W Hh t 3 0 ∨ x = ballE ns W Hh t 3 1 ∨ x = ballE ns W Hh t 3 2) with rfl | rfl | rfl
        · exact okE 0 (by omega)
        · exact okE 1 (by omega)
        · exact okE 2 (by omega)
      · simp only [List.map_cons, List.map_nil, ballE_nm]
        simpa using (⟨⟨nd 0 1 (by decide), nd 0 2 (by decide)⟩, nd 1 2 (by decide)⟩ : (sgn (97 + 0) ≠ sgn (97 + 1) ∧ sgn (97 + 0) ≠ sgn (97 + 2)) ∧ sgn (97 + 1) ≠ sgn (97 + 2))
    · intro x hx
      rcases (by simpa using hx : x = ballE ns W Hh t 3 0 ∨ x = ballE ns W Hh t 3 1 ∨ x = ballE ns W Hh t 3 2) with rfl | rfl | rfl
      · exact tm 0 (by omega)
      · exact tm 1 (by omega)
      · exact tm 2 (by omega)
    · intro hmd x hx
      rcases (by simpa using hx : x = ballE ns W Hh t 3 1 ∨ x = ballE ns W Hh t 3 2) with rfl | rfl
      · exact ballE_made hn hw hh t 3 (by omega) (by omega) (hm hmd)
      · exact ballE_made hn hw hh t 3 (by omega) (by omega) (hm hmd)
/-- the second ball led head on -/
theorem law_headon (T : Txt K mg C) (ns : List Int) (hn : Nums ns) (n : Nat) (hn2 : n = 2 ∨ n = 3) (hw : 0 < W) (hw2 : W ≤ 10 ^ 30) (hh : 0 < Hh) (hh2 : Hh ≤ 10 ^ 30) (t : Int) (ht : ∀ k, k ≤ 2 → (ball0 ns W Hh k).m ≤ t ∨ n ≤ k) (t1 : t ≤ 10 ^ 31)
    (f : Addr) (cdv : Value) (A : Around) (outer : List Env) (s' : Shared) (H : Hp) (E : XK) (hr : Room 7 (A.deeper (envOfC "law" (defScope sLaw) s'.heap.objs.size f cdv))) (D : Addr) (hm : num ns 141 % 3 = 2) :
    Sos (CxC P w K mg base nLaw "law" (defScope sLaw) f cdv A outer s' H E) D (ifBody ((defBody sLaw)[8]?)) (rO D C W Hh ns ((List.range n).map (ball0 ns W Hh)) none (some (pI t)) (some (pB false)) none none none none)
      (.nx (rO D C W Hh ns ((List.range n).map (ballE ns W Hh t n)) none (some (pI t)) (some (pB false)) none none none none)) := by
  have big : (10 : Int) ^ 31 + 1 < 2 ^ 1000 := by decide
  have o0 := (ball0_ok hn hw hh (k := 0) (by omega)).1
  have h0 : (ball0 ns W Hh 0).m ≤ t := (ht 0 (by omega)).resolve_right (by omega)
  have h1 : (ball0 ns W Hh 1).m ≤ t := (ht 1 (by omega)).resolve_right (by omega)
  have oH := ledH_ok (W := W) (Hh := Hh) hn hw hh t
  have mH : (ledH ns W Hh t).m = (ball0 ns W Hh 1).m := rfl
  have e1 : ballE ns W Hh t n 1 = ledH ns W Hh t := by
    unfold ballE
    rw [if_neg (by omega), if_pos ⟨hm, rfl⟩]
  have st := mapR_set (n := n) (ball0 ns W Hh) (ballE ns W Hh t n) (ledH ns W Hh t) (j := 1) e1 (fun k hk => by
    unfold ballE
    rw [if_neg (by omega), if_neg (fun z => hk z.2)])
  have at0 : L2.atI (((List.range n).map (ball0 ns W Hh)).map Ball.d) 0 = some (ball0 ns W Hh 0).d := mapR_at (n := n) (k := 0) _ (by omega)
  have at1 : L2.atI (((List.range n).map (ball0 ns W Hh)).map Ball.d) 1 = some (ball0 ns W Hh 1).d := mapR_at (n := n) (k := 1) _ (by omega)
  have bt0 : L2.atI (((List.range n).map (ballE ns W Hh t n)).map Ball.d) 0 = some (ball0 ns W Hh 0).d := (mapR_at (n := n) (k := 0) _ (by omega)).trans (by rw [ballE0])
  have bt1 : L2.atI (((List.range n).map (ballE ns W Hh t n)).map Ball.d) 1 = some (ledH ns W Hh t).d := (mapR_at (n := n) (k := 1) _ (by omega)).trans (by rw [e1])
  refine sos_cons (so_of (sv_set 12 scLaw.nd (ev_call (df_lawWhere T (ball0 ns W Hh 0) t (fit_of hw2 hh2 o0 h0 (by omega)) hw hw2 hh hh2) (hr.mono (by decide)) (eva_cons (ev_var 2) (eva_cons (ev_var 3) (eva_cons (ev_ixL (d := (ball0 ns W Hh 0).d) (ev_wk (ev_var 5) Wk.own) ev_int at0) (eva_cons (ev_var 7) eva_nil)))))))
    (sos_cons (so_of (sv_set 13 scLaw.nd (ev_call (df_lawWhere T (ball0 ns W Hh 0) (t + 1) (fit_of hw2 hh2 o0 (by omega) (by omega)) hw hw2 hh hh2) (hr.mono (by decide)) (eva_cons (ev_var 2) (eva_cons (ev_var 3) (eva_cons (ev_ixL (d := (ball0 ns W Hh 0).d) (ev_wk (ev_var 5) Wk.own) ev_int at0) (eva_cons (ev_add (ev_var 7) ev_int) eva_nil)))))))
    (sos_cons (so_of (sv_set 11 scLaw.nd (ev_tup (evd_cons (ev_sub (ev_ixT (d := .int (whereF W Hh (ball0 ns W Hh 0) t).1) (ev_var 12) ev_int) (ev_ixT (d := .int (whereF W Hh (ball0 ns W Hh 0) (t + 1)).1) (ev_var 13) ev_int))
      (evd_cons (ev_sub (ev_ixT (d := .int (whereF W Hh (ball0 ns W Hh 0) t).2) (ev_var 12) ev_int) (ev_ixT (d := .int (whereF W Hh (ball0 ns W Hh 0) (t + 1)).2) (ev_var 13) ev_int)) evd_nil)))))
    (sos_cons (so_put (ρ' := rO D C W Hh ns ((List.range n).map (ballE ns W Hh t n)) none (some (pI t)) (some (pB false)) none none none none) (j := 1) (d := (ledH ns W Hh t).d)
      (ev_call (df_lawLed T (ball0 ns W Hh 1).nm (whereF W Hh (ball0 ns W Hh 0) (t + 1)) ((whereF W Hh (ball0 ns W Hh 0) t).1 - (whereF W Hh (ball0 ns W Hh 0) (t + 1)).1, (whereF W Hh (ball0 ns W Hh 0) t).2 - (whereF W Hh (ball0 ns W Hh 0) (t + 1)).2) t (ball0 ns W Hh 1).m hw hh) (hr.mono (by decide))
        (eva_cons (ev_var 2) (eva_cons (ev_var 3) (eva_cons (ev_ixT (d := .str (ball0 ns W Hh 1).nm) (ev_ixL (d := (ball0 ns W Hh 1).d) (ev_wk (ev_var 5) Wk.own) ev_int at1) ev_int) (eva_cons (ev_var 13) (eva_cons (ev_var 11) (eva_cons (ev_var 7) (eva_cons (ev_ixT (d := .int (ball0 ns W Hh 1).m) (ev_ixL (d := (ball0 ns W Hh 1).d) (ev_wk (ev_var 5) Wk.own) ev_int at1) ev_int) eva_nil))))))))
      (ev_var 5) (ev_cast ev_int rfl) (by rw [List.length_map, List.length_map, List.length_range]; omega) rfl (flat_balls _) ?_)
    (sos_one (so_of (sv_ifno (evt_cast (evt_not (evt_val (ev_call (df_lawIsIn T (halfs W Hh (ball0 ns W Hh 0) (ledH ns W Hh t)) t (half_pos hw hw2 hh hh2) (half_len W Hh _ _)) (hr.mono (by decide))
      (eva_cons (ev_call (df_halfs T (ball0 ns W Hh 0) (ledH ns W Hh t) o0 oH hw hw2 hh hh2) (hr.mono (by decide)) (eva_cons (ev_var 4) (eva_cons (ev_ixL (d := (ball0 ns W Hh 0).d) (ev_wk (ev_var 5) Wk.own) ev_int bt0) (eva_cons (ev_ixL (d := (ledH ns W Hh t).d) (ev_wk (ev_var 5) Wk.own) ev_int bt1) eva_nil)))) (eva_cons (ev_var 7) eva_nil))))) ?_)))))))
  · rw [st]
    exact ⟨.same (rob_off (flat_int _)), .same (rob_flat rfl), .same (rob_flat rfl), .same rob_tab, .own, .same (rob_flat rfl), .same (rob_flat rfl), trivial⟩
  · rw [half_isIn hw hw2 hh hh2 h0 (by rw [mH]; exact h1), decide_eq_true (ledH_mid hn hw hh t)]
    rfl
end
end Cu
set_option Elab.async false
set_option linter.all false
set_option maxRecDepth 100000
set_option maxHeartbeats 4000000
set_option exponentiation.threshold 5000
namespace Cu
open PySem PySem.Spec PyProof.Rows L2

def nB (ns : List Int) : Nat := (2 + num ns 130 % 2).toNat
section
variable {P : Program} {w : World} {K : PySem.W.Frag} {mg : Str → Option Value} {base : Heap} {C : Addr}
theorem law_all (T : Txt K mg C) (ns0 : List Int) (f : Addr) (cdv : Value) (A : Around) (outer : List Env) (s' : Shared) (H : Hp) (E : XK) (hr : Room 7 (A.deeper (envOfC "law" (defScope sLaw) s'.heap.objs.size f cdv))) :
    Svs (CxC P w K mg base nLaw "law" (defScope sLaw) f cdv A outer s' H E) (defBody sLaw) (rho0 nLaw [scr K ns0]) (.rt (pB true)) := by
  have hn := nums_ok ns0
  generalize hns : numsOf ns0 = ns at hn
  obtain ⟨w0, w1⟩ := great_bd hn 0
  obtain ⟨h0, h1⟩ := great_bd hn 10
  obtain ⟨g0, g1⟩ := great_bd hn 131
  generalize hW : great ns 0 = W at w0 w1
  generalize hH : great ns 10 = Hh at h0 h1
  have hw : 0 < W := by omega
  have hh : 0 < Hh := by omega
  have hb130 := hn.bd 130
  have hb141 := hn.bd 141
  have hn2 : nB ns = 2 ∨ nB ns = 3 := by unfold nB; omega
  have hnI : ((nB ns : Nat) : Int) = 2 + num ns 130 % 2 := by unfold nB; omega
  generalize nB ns = n at hn2 hnI
  have ok0 := fun k (hk : k ≤ 2) => ball0_ok (k := k) hn hw hh hk
  -- the latest start
  obtain ⟨M, m1, m2⟩ : ∃ M, M ∈ ((List.range n).map (ball0 ns W Hh)).map Ball.m ∧ ∀ y ∈ ((List.range n).map (ball0 ns W Hh)).map Ball.m, y ≤ M := by
    have e : ((List.range n).map (ball0 ns W Hh)).map Ball.m ≠ [] := by
      rw [List.map_map]
      simp
      omega
    cases hl : ((List.range n).map (ball0 ns W Hh)).map Ball.m with
    | nil => exact absurd hl e
    | cons x xs => exact ⟨_, (mx_spec x xs).1, (mx_spec x xs).2⟩
  have M1 : M < 10 ^ 29 := by
    obtain ⟨b, hb, rfl⟩ := List.mem_map.mp m1
    obtain ⟨k, hk, rfl⟩ := List.mem_map.mp hb
    exact (ok0 k (by have := List.mem_range.mp hk; omega)).2
  have ht : ∀ k, k ≤ 2 → (ball0 ns W Hh k).m ≤ M + great ns 131 ∨ n ≤ k := fun k hk => by
    by_cases c : k < n
    · have := m2 (ball0 ns W Hh k).m (List.mem_map.mpr ⟨_, List.mem_map.mpr ⟨k, List.mem_range.mpr c, rfl⟩, rfl⟩)
      exact .inl (by omega)
    · exact .inr (by omega)
  have t1 : M + great ns 131 ≤ 10 ^ 31 := by
    have e1 : (10 : Int) ^ 29 + 10 ^ 30 ≤ 10 ^ 31 := by decide
    omega
  refine svs_cons (sv_set 1 scLaw.nd (ev_cast (ev_call (df_numbers T ns0) (hr.mono (by decide)) (eva_cons (ev_var 0) (eva_cons ev_int eva_nil))) (by rw [hns])))
    (svs_cons (sv_set 2 scLaw.nd (ev_cast (ev_call (df_great T ns hn 0 (by omega)) (hr.mono (by decide)) (eva_cons (ev_var 1) (eva_cons (ev_cast ev_int rfl) eva_nil))) (by rw [hW])))
    (svs_cons (sv_set 3 scLaw.nd (ev_cast (ev_call (df_great T ns hn 10 (by omega)) (hr.mono (by decide)) (eva_cons (ev_var 1) (eva_cons (ev_cast ev_int rfl) eva_nil))) (by rw [hH])))
    (svs_cons (sv_set 4 scLaw.nd (ev_table (W := W) (Hh := Hh) T (hr.mono (by decide)) (ev_var 2) (ev_var 3) hw w1 hh h1))
    (pss_to (ps_newLc (Q := fun _ => pB true) (ρ := [some (scr K ns0), some (pL (ns.map PyData.int)), some (pI W), some (pI Hh), some (tab C W Hh), none, none, none, none, none, none, none, none, none, none, none, none, none, none, none, none, none, none, none])
      (xs := List.range n) (enc := fun k => .int ((0 : Int) + (k : Nat))) (pr := fun _ => true) (gd := fun k => (ball0 ns W Hh k).d) 5 [("_law_k", 6)] scLaw.nd (blkOk_by (N := nLaw) (sc := defScope sLaw) (by decide +kernel))
      (ρ0 := fun D => [none, some (offL D (ns.map PyData.int)), some (pI W), some (pI Hh), some (tab C W Hh), none, none, none, none, none, none, none, none, none, none, none, none, none, none, none, none, none, none, none])
      (ρ' := fun D => rO D C W Hh ns ((List.range n).map (ball0 ns W Hh)) none none none none none none none) ?_ (by decide)
      (fun x hx s H C cl fp => tg_name 6 scLaw.nd) (fun x hx s H C cl fp => evts_nil) (fun k hk _ s H C cl fp => ev_call (df_greater T ns hn (20 + 35 * k) ?_ (sgn (97 + k)) hw hh) (hr.mono (by decide)) (eva_cons (ev_var 1) (eva_cons (ev_cast (ev_add ev_int (ev_mul ev_int (ev_var 6) (.inl (by decide)))) ?_)
        (eva_cons (ev_var 2) (eva_cons (ev_var 3) (eva_cons (ev_ixS (ch := 97 + k) ev_str (ev_var 6) (small1000' (Nat.le_of_ble_eq_true rfl)) (abc_at ?_)) eva_nil)))))) (fun k hk => rfl) ?_ (fun D => ?_) (fun D => ⟨.off, .same, .same, .same, trivial⟩) (fun D => ?_)
      (sw_true rfl rfl rfl (by decide +kernel))) fun E σ H ⟨st, k⟩ => ⟨st, fun D v H' _ e q => k v H' e q⟩))))
  · refine pi_to (evi_rng1 (n := ((n : Nat) : Int)) T.zRange (ev_cast (ev_add ev_int (ev_mod (ev_toint T.zInt (ev_ixL (ev_var 1) ev_int (hn.at 130 (by omega)))) ev_int (by decide))) (by rw [hnI])) (by omega)) fun σ H R q => q
  · have := List.mem_range.mp hk
    omega
  · congr 1
    congr 1
    omega
  · have := List.mem_range.mp hk
    omega
  · rw [List.length_range]
    omega
  · -- the rest
    have tl := fun (made : Bool) (hm : made = true → num ns 141 % 3 = 1) => sos_wk (ρ := rO D C W Hh ns ((List.range n).map (ballE ns W Hh (M + great ns 131) n)) none (some (pI (M + great ns 131))) (some (pB made)) none none none none) (D := D)
      (sos_of (law_fin (P := P) (w := w) (base := base) T ns hn n hn2 hw w1 hh h1 (M + great ns 131) ht t1 made hm f cdv A outer s' H E hr)) ⟨.same, .same, .same, .own, .same, .same, trivial⟩
    have e141 : ∀ {ρ : Rho} {p1 p2 p3 p4 p5 p6 : Pos} {j1 j2 : Nat}, rat ρ 1 = some (offL D (ns.map PyData.int)) → True := fun _ => trivial
    refine sos_cons (so_of (sv_set 7 scLaw.nd (ev_add (ev_maxL (ns := ((List.range n).map (ball0 ns W Hh)).map Ball.m) (m := M) T.zMax (ev_cast (ev_lc (xs := (List.range n).map (ball0 ns W Hh)) (enc := Ball.d) (pr := fun _ => true) (gd := fun b => .int b.m) [("_law_ball_here", 8)] scLaw.nd
        (blkOk_by (N := nLaw) (sc := defScope sLaw) (by decide +kernel)) (evi_list (ev_wk (ev_var 5) Wk.own)) (by decide) (fun x hx s H C cl fp => tg_name 8 scLaw.nd) (fun x hx s H C cl fp => evts_nil) (fun x hx _ s H C cl fp => ev_ixT (d := .int x.m) (ev_var 8) ev_int) (fun x hx => rfl) ?_) ?_) m1 m2)
        (ev_call (df_great T ns hn 131 (by omega)) (hr.mono (by decide)) (eva_cons (ev_wk (ev_var 1) Wk.off) (eva_cons (ev_cast ev_int rfl) eva_nil)))))) ?_
    · rw [List.length_map, List.length_range]
      omega
    · rw [filter_yes, ints_map]
    · by_cases c1 : num ns 141 % 3 = 1
      · refine sos_cons (so_of (sv_set 9 scLaw.nd (ev_cast (ev_eq (ev_mod (ev_toint T.zInt (ev_ixL (ev_wk (ev_var 1) Wk.off) ev_int (hn.at 141 (by omega)))) ev_int (by decide)) ev_int) (by rw [decide_eq_true c1]))))
          (sos_cons (so_if (t := true) (evt_val (ev_var 9)) (fun _ => law_made (P := P) (w := w) (base := base) T ns hn n hn2 hw w1 hh h1 (M + great ns 131) ht t1 f cdv A outer s' H E hr D c1) fun z => nomatch z)
          (sos_cons (so_of (sv_ifno (evt_cast (evt_eq (ev_mod (ev_toint T.zInt (ev_ixL (ev_wk (ev_var 1) Wk.off) ev_int (hn.at 141 (by omega)))) ev_int (by decide)) ev_int) (decide_eq_false (by omega))))) (tl true fun _ => c1)))
      · by_cases c2 : num ns 141 % 3 = 2
        · refine sos_cons (so_of (sv_set 9 scLaw.nd (ev_cast (ev_eq (ev_mod (ev_toint T.zInt (ev_ixL (ev_wk (ev_var 1) Wk.off) ev_int (hn.at 141 (by omega)))) ev_int (by decide)) ev_int) (by rw [decide_eq_false c1]))))
            (sos_cons (so_of (sv_ifno (evt_val (ev_var 9))))
            (sos_cons (so_if (t := true) (evt_cast (evt_eq (ev_mod (ev_toint T.zInt (ev_ixL (ev_wk (ev_var 1) Wk.off) ev_int (hn.at 141 (by omega)))) ev_int (by decide)) ev_int) (decide_eq_true c2)) (fun _ => law_headon (P := P) (w := w) (base := base) T ns hn n hn2 hw w1 hh h1 (M + great ns 131) ht t1 f cdv A outer s' H E hr D c2) fun z => nomatch z)
              (tl false fun z => nomatch z)))
        · have e : (List.range n).map (ballE ns W Hh (M + great ns 131) n) = (List.range n).map (ball0 ns W Hh) := List.map_congr_left fun k _ => by
            unfold ballE
            rw [if_neg c1, if_neg fun z => c2 z.1]
          rw [e] at tl
          refine sos_cons (so_of (sv_set 9 scLaw.nd (ev_cast (ev_eq (ev_mod (ev_toint T.zInt (ev_ixL (ev_wk (ev_var 1) Wk.off) ev_int (hn.at 141 (by omega)))) ev_int (by decide)) ev_int) (by rw [decide_eq_false c1]))))
            (sos_cons (so_of (sv_ifno (evt_val (ev_var 9))))
            (sos_cons (so_of (sv_ifno (evt_cast (evt_eq (ev_mod (ev_toint T.zInt (ev_ixL (ev_wk (ev_var 1) Wk.off) ev_int (hn.at 141 (by omega)))) ev_int (by decide)) ev_int) (decide_eq_false c2))))
              (tl false fun z => nomatch z)))
  · have e : (List.range n).map (fun k => (ball0 ns W Hh k).d) = ((List.range n).map (ball0 ns W Hh)).map Ball.d := by
      rw [List.map_map]
      rfl
    rw [filter_yes, e]
    rfl
end
end Cu
set_option Elab.async false
set_option linter.all false
set_option maxRecDepth 100000
set_option maxHeartbeats 4000000
namespace Cu
open PySem PySem.Spec PyProof.Rows L2

def spLaw (K : PySem.W.Frag) : Sp := fun vs H Q _ => ∃ ns, spR [scr K ns] (pB true) vs H Q E0
section
variable {K : PySem.W.Frag} {h : Heap} {mg : Str → Option Value} {x : Str} {st : Stmt} {f : Addr} {oc : Value} {od an : Option Addr} {osl : Array (Option Value)} {kV doc pm cdv ct : Value}
theorem has_mk (X : K.In h) (G : h.Ns mainGlobals mg) (a : PySem.W.nsIn K mainGlobals x = some (some (.ref f))) (l : K.lookup f = some ⟨oc, od, .func (PySem.W.fnOf x x (defArgs st) (defBody st) (defScope st) .none kV doc pm an cdv ct), osl⟩)
    (c : PySem.W.codeIn K cdv x = true) (k : PySem.W.keepIn K (.ref f) = true) : Has K mg x st :=
  ⟨f, _, PySem.W.mg_of X G a, ⟨⟨oc, od, .none, kV, doc, pm, an, cdv, ct, osl, rfl, l, c, .inl ⟨rfl, rfl⟩, .inl rfl⟩, k⟩⟩
theorem kw_mk {D : Addr} (X : K.In h) (G : h.Ns mainGlobals mg) (a : PySem.W.nsIn K mainGlobals "pair_classes" = some (some (.ref f)))
    (l : K.lookup f = some ⟨oc, od, .func (PySem.W.fnOf "pair_classes" "pair_classes" (defArgs sPairClasses) (defBody sPairClasses) (defScope sPairClasses) .none (.ref D) doc pm an cdv ct), osl⟩)
    (c : PySem.W.codeIn K cdv "pair_classes" = true) (k : PySem.W.keepIn K (.ref f) = true) (d : PySem.W.nsIn K D "half" = some (some (.bool false))) :
    ∃ f fd, mg "pair_classes" = some (.ref f) ∧ FunD K "pair_classes" "pair_classes" (defArgs sPairClasses) (defBody sPairClasses) (defScope sPairClasses) [] [("half", .bl false)] f fd :=
  ⟨f, _, PySem.W.mg_of X G a, ⟨⟨oc, od, .none, .ref D, doc, pm, an, cdv, ct, osl, rfl, l, c, .inl ⟨rfl, rfl⟩, .inr ⟨D, rfl, fun q hq => by
    obtain rfl := List.mem_singleton.mp hq
    exact ⟨_, d, rfl⟩⟩⟩, k⟩⟩
theorem meth_mk {C : Addr} (a : PySem.W.findIn K (.ref C) "is_point" = some (some (.ref f))) (i : PySem.W.isFn K (.ref f) = true)
    (l : K.lookup f = some ⟨oc, od, .func (PySem.W.fnOf "is_point" "Table.is_point" (defArgs sTableIsPoint) (defBody sTableIsPoint) (defScope sTableIsPoint) .none kV doc pm an cdv ct), osl⟩)
    (c : PySem.W.codeIn K cdv "Table.is_point" = true) (k : PySem.W.keepIn K (.ref f) = true) :
    ∃ f fd, Meth K C "is_point" f ∧ FunD K "is_point" "Table.is_point" (defArgs sTableIsPoint) (defBody sTableIsPoint) (defScope sTableIsPoint) [] [] f fd :=
  ⟨f, _, ⟨a, i, k⟩, ⟨⟨oc, od, .none, kV, doc, pm, an, cdv, ct, osl, rfl, l, c, .inl ⟨rfl, rfl⟩, .inl rfl⟩, k⟩⟩
theorem init_mk {C T0 T : Addr} {oc0 oc1 : Value} {d0 d1 : Option Addr} {s0 s1 : Array (Option Value)} {n0 n1 : Nat} (X : K.In h) (G : h.Ns mainGlobals mg) (aC : PySem.W.nsIn K mainGlobals "Table" = some (some (.ref C))) (mk : PySem.W.makesIn K C = true) (kc : PySem.W.keepIn K (.ref C) = true)
    (a : PySem.W.findIn K (.ref C) "__init__" = some (some (.ref f))) (i : PySem.W.isFn K (.ref f) = true)
    (l : K.lookup f = some ⟨oc, od, .func (PySem.W.fnOf "__init__" "Table.__init__" (defArgs sTableInit) (defBody sTableInit) (defScope sTableInit) (.ref T0) kV doc pm an cdv ct), osl⟩)
    (c : PySem.W.codeIn K cdv "Table.__init__" = true) (k : PySem.W.keepIn K (.ref f) = true)
    (t0 : K.lookup T0 = some ⟨oc0, d0, .seq #[.ref T] n0, s0⟩) (t1 : K.lookup T = some ⟨oc1, d1, .seq #[] n1, s1⟩) (ht : oc1 = .type "tuple") :
    ∃ f fd T, mg "Table" = some (.ref C) ∧ Mk K C f ∧ FunD K "__init__" "Table.__init__" (defArgs sTableInit) (defBody sTableInit) (defScope sTableInit) [.ref T] [] f fd ∧ ∀ H, SqT K H T [] :=
  ⟨f, _, T, PySem.W.mg_of X G aC, ⟨mk, a, i, kc⟩, ⟨⟨oc, od, .ref T0, kV, doc, pm, an, cdv, ct, osl, rfl, l, c, .inr ⟨by simp, T0, _, [.ref T], n0, rfl, t0, rfl, .cons rfl .nil⟩, .inl rfl⟩, k⟩, fun H => .inr ⟨_, #[], n1, t1, ht, rfl, Nat.zero_le _, .nil⟩⟩
theorem no_mk {C : Addr} (a : PySem.W.findIn K (.ref C) x = some none) : NoAttr K C x := a
theorem int_mk {i : Int} {t : Tok} (X : K.In h) (G : h.Ns mainGlobals mg) (a : PySem.W.nsIn K mainGlobals x = some (some (.int i t))) : ∃ t, mg x = some (.int i t) := ⟨t, PySem.W.mg_of X G a⟩
theorem str_mk {i : Str} {t : Tok} (X : K.In h) (G : h.Ns mainGlobals mg) (a : PySem.W.nsIn K mainGlobals x = some (some (.str i t))) : ∃ t, mg x = some (.str i t) := ⟨t, PySem.W.mg_of X G a⟩
theorem fin_mk {prog : Program} {w : World} {C fa : Addr} (X : K.In h) (G : h.Ns mainGlobals mg) (hfa : mg "law" = some (.ref fa)) (T : Txt K mg C) (a : PySem.W.nsIn K mainGlobals "law" = some (some (.ref f)))
    (l : K.lookup f = some ⟨oc, od, .func (PySem.W.fnOf "law" "law" (defArgs sLaw) (defBody sLaw) (defScope sLaw) .none kV doc pm an cdv ct), osl⟩) (c : PySem.W.codeIn K cdv "law" = true) (k : PySem.W.keepIn K (.ref f) = true) :
    ∃ fd : FuncData, (∀ (s : Shared) (v : Value), BindsTo s fd ⟨[v], []⟩ [("_law_script", v)]) ∧ ∀ base : Heap, K.In base → base.Ns mainGlobals mg → FnOk prog w K mg base CX0 8 fa fd ["_law_script"] (spLaw K) := by
  have e := hfa.symm.trans (PySem.W.mg_of X G a)
  cases e
  have F : FunD K "law" "law" (defArgs sLaw) (defBody sLaw) (defScope sLaw) [] [] f _ := ⟨⟨oc, od, .none, kV, doc, pm, an, cdv, ct, osl, rfl, l, c, .inl ⟨rfl, rfl⟩, .inl rfl⟩, k⟩
  refine ⟨PySem.W.fnOf "law" "law" (defArgs sLaw) (defBody sLaw) (defScope sLaw) .none kV doc pm an cdv ct, fun s v => .of_eq rfl, fun base _ _ => ?_⟩
  refine F.ok (N := nLaw) scLaw (fun vs H Q E ⟨ns, q⟩ => q.1.length) fun cdv A outer s H vs Q E hr ⟨ns, q⟩ => ⟨_, (law_all (P := prog) (w := w) (base := base) T ns f cdv A outer s H E hr).nox, ?_⟩
  refine ⟨?_, fun v H' e p => q.2 v H' e p⟩
  have e := q.1.length
  unfold L2.start rho0
  rw [e]
  exact stok_start _ q.1
end
theorem walk {l : PySem.W.OpenLaw} {q : Program} {loose : List Str} {XP : (Str → Option Value) → Heap → Prop} {YP : World → Heap → Prop} {d : DefRec} {K : Params → PySem.W.Frag} (hn : l.most = some 63) (hdf : d.params.defaults = [])
    (hY : ∀ (w : World) (h : Heap), YP w h → (K w.params).In h)
    (F : ∀ (w : World) (mg : Str → Option Value) (fa : Addr) (h : Heap), (K w.params).In h → h.Ns mainGlobals mg → mg d.name = some (.ref fa) →
      ∃ fd : FuncData, (∀ (s : Shared) (u : Value), BindsTo s fd ⟨[u], []⟩ [("_law_script", u)]) ∧ ∀ base : Heap, (K w.params).In base → base.Ns mainGlobals mg → FnOk l.prog w (K w.params) mg base CX0 8 fa fd ["_law_script"] (spLaw (K w.params))) :
    PySem.W.WalkO q loose XP YP l.row.toRowW d [] (fun f vs => PySem.call f vs) :=
  L2.walk_of (n := 63) (k := 8) (x := "_law_script") (CX := fun _ => CX0) (sp := fun w => spLaw (K w.params)) hn (by decide) hdf ⟨rfl, by decide, by decide⟩ hY F (fun _ _ a ns hl _ hS => ⟨ns, .cons ⟨a, rfl, hS⟩ .nil, fun v H' _ q => Dr.ofB q⟩) fun _ _ _ _ _ z => z
end Cu
open PySem PySem.W PyProof.Rows
set_option maxRecDepth 100000 in
set_option maxHeartbeats 0 in
theorem PySem.Challenge.cw_cushioned_k69_whole_great_crowds_holds : PySem.Challenge.rw_cushioned_k69_whole_great_crowds.Holds := by
  w_on; o_law; k_head; (case hw => w_witness2)
  k_fill
  refine Cu.walk (l := PySem.Challenge.rw_cushioned_k69_whole_great_crowds) rfl rfl (fun w h Y => PySem.W.kIn_of Y) ?F
  case F =>
    intro w mg fa h KX G hmg
    refine' Cu.fin_mk KX G hmg (Cu.Txt.mk
      (Cu.has_mk KX G ?a0 ?l0 ?c0 ?k0)
      (Cu.has_mk KX G ?a1 ?l1 ?c1 ?k1)
      (Cu.has_mk KX G ?a2 ?l2 ?c2 ?k2)
      (Cu.has_mk KX G ?a3 ?l3 ?c3 ?k3)
      (Cu.has_mk KX G ?a4 ?l4 ?c4 ?k4)
      (Cu.has_mk KX G ?a5 ?l5 ?c5 ?k5)
      (Cu.has_mk KX G ?a6 ?l6 ?c6 ?k6)
      (Cu.has_mk KX G ?a7 ?l7 ?c7 ?k7)
      (Cu.has_mk KX G ?a8 ?l8 ?c8 ?k8)
      (Cu.has_mk KX G ?a9 ?l9 ?c9 ?k9)
      (Cu.has_mk KX G ?a10 ?l10 ?c10 ?k10)
      (Cu.has_mk KX G ?a11 ?l11 ?c11 ?k11)
      (Cu.has_mk KX G ?a12 ?l12 ?c12 ?k12)
      (Cu.has_mk KX G ?a13 ?l13 ?c13 ?k13)
      (Cu.has_mk KX G ?a14 ?l14 ?c14 ?k14)
      (Cu.has_mk KX G ?a15 ?l15 ?c15 ?k15)
      (Cu.has_mk KX G ?a16 ?l16 ?c16 ?k16)
      (Cu.has_mk KX G ?a17 ?l17 ?c17 ?k17)
      (Cu.has_mk KX G ?a18 ?l18 ?c18 ?k18)
      (Cu.has_mk KX G ?a19 ?l19 ?c19 ?k19)
      (Cu.has_mk KX G ?a20 ?l20 ?c20 ?k20)
      (Cu.has_mk KX G ?a21 ?l21 ?c21 ?k21)
      (Cu.has_mk KX G ?a22 ?l22 ?c22 ?k22)
      (Cu.has_mk KX G ?a23 ?l23 ?c23 ?k23)
      (Cu.has_mk KX G ?a24 ?l24 ?c24 ?k24)
      (Cu.has_mk KX G ?a25 ?l25 ?c25 ?k25)
      (Cu.has_mk KX G ?a26 ?l26 ?c26 ?k26)
      (Cu.has_mk KX G ?a27 ?l27 ?c27 ?k27)
      (Cu.has_mk KX G ?a28 ?l28 ?c28 ?k28)
      (Cu.has_mk KX G ?a29 ?l29 ?c29 ?k29)
      (Cu.has_mk KX G ?a30 ?l30 ?c30 ?k30)
      (Cu.has_mk KX G ?a31 ?l31 ?c31 ?k31)
      (Cu.has_mk KX G ?a32 ?l32 ?c32 ?k32)
      (Cu.has_mk KX G ?a33 ?l33 ?c33 ?k33)
      (Cu.has_mk KX G ?a34 ?l34 ?c34 ?k34)
      (Cu.has_mk KX G ?a35 ?l35 ?c35 ?k35)
      (Cu.kw_mk KX G ?aP ?lP ?cP ?kP ?dP)
      (PySem.W.mg_none_of KX G ?z_len)
      (PySem.W.mg_none_of KX G ?z_all)
      (PySem.W.mg_none_of KX G ?z_tuple)
      (PySem.W.mg_none_of KX G ?z_enumerate)
      (PySem.W.mg_none_of KX G ?z_min)
      (PySem.W.mg_none_of KX G ?z_max)
      (PySem.W.mg_none_of KX G ?z_zip)
      (PySem.W.mg_none_of KX G ?z_sorted)
      (PySem.W.mg_none_of KX G ?z_range)
      (PySem.W.mg_none_of KX G ?z_list)
      (PySem.W.mg_none_of KX G ?z_int)
      (PySem.W.mg_none_of KX G ?z_abs)
      (PySem.W.mg_of KX G ?g1) (PySem.W.mg_of KX G ?g2)
      (Cu.int_mk KX G ?i0)
      (Cu.int_mk KX G ?i1)
      (Cu.int_mk KX G ?i2)
      (Cu.int_mk KX G ?i3)
      (Cu.int_mk KX G ?i4)
      (Cu.str_mk KX G ?s0)
      ⟨?pg, ?hd, ?po, ?sa⟩ (Cu.no_mk ?nW) (Cu.no_mk ?nH) (Cu.no_mk ?nP)
      (Cu.meth_mk ?aM ?iM ?lM ?cM ?kM)
      (Cu.init_mk KX G ?aC ?mkC ?kC ?aI ?iI ?lI ?cI ?kI ?t0 ?t1 ?ht))
      ?aL ?lL ?cL ?kL
    (case a0 => k_is); (case l0 => k_is); (case c0 => k_is); (case k0 => k_is)
    (case a1 => k_is); (case l1 => k_is); (case c1 => k_is); (case k1 => k_is)
    (case a2 => k_is); (case l2 => k_is); (case c2 => k_is); (case k2 => k_is)
    (case a3 => k_is); (case l3 => k_is); (case c3 => k_is); (case k3 => k_is)
    (case a4 => k_is); (case l4 => k_is); (case c4 => k_is); (case k4 => k_is)
    (case a5 => k_is); (case l5 => k_is); (case c5 => k_is); (case k5 => k_is)
    (case a6 => k_is); (case l6 => k_is); (case c6 => k_is); (case k6 => k_is)
    (case a7 => k_is); (case l7 => k_is); (case c7 => k_is); (case k7 => k_is)
    (case a8 => k_is); (case l8 => k_is); (case c8 => k_is); (case k8 => k_is)
    (case a9 => k_is); (case l9 => k_is); (case c9 => k_is); (case k9 => k_is)
    (case a10 => k_is); (case l10 => k_is); (case c10 => k_is); (case k10 => k_is)
    (case a11 => k_is); (case l11 => k_is); (case c11 => k_is); (case k11 => k_is)
    (case a12 => k_is); (case l12 => k_is); (case c12 => k_is); (case k12 => k_is)
    (case a13 => k_is); (case l13 => k_is); (case c13 => k_is); (case k13 => k_is)
    (case a14 => k_is); (case l14 => k_is); (case c14 => k_is); (case k14 => k_is)
    (case a15 => k_is); (case l15 => k_is); (case c15 => k_is); (case k15 => k_is)
    (case a16 => k_is); (case l16 => k_is); (case c16 => k_is); (case k16 => k_is)
    (case a17 => k_is); (case l17 => k_is); (case c17 => k_is); (case k17 => k_is)
    (case a18 => k_is); (case l18 => k_is); (case c18 => k_is); (case k18 => k_is)
    (case a19 => k_is); (case l19 => k_is); (case c19 => k_is); (case k19 => k_is)
    (case a20 => k_is); (case l20 => k_is); (case c20 => k_is); (case k20 => k_is)
    (case a21 => k_is); (case l21 => k_is); (case c21 => k_is); (case k21 => k_is)
    (case a22 => k_is); (case l22 => k_is); (case c22 => k_is); (case k22 => k_is)
    (case a23 => k_is); (case l23 => k_is); (case c23 => k_is); (case k23 => k_is)
    (case a24 => k_is); (case l24 => k_is); (case c24 => k_is); (case k24 => k_is)
    (case a25 => k_is); (case l25 => k_is); (case c25 => k_is); (case k25 => k_is)
    (case a26 => k_is); (case l26 => k_is); (case c26 => k_is); (case k26 => k_is)
    (case a27 => k_is); (case l27 => k_is); (case c27 => k_is); (case k27 => k_is)
    (case a28 => k_is); (case l28 => k_is); (case c28 => k_is); (case k28 => k_is)
    (case a29 => k_is); (case l29 => k_is); (case c29 => k_is); (case k29 => k_is)
    (case a30 => k_is); (case l30 => k_is); (case c30 => k_is); (case k30 => k_is)
    (case a31 => k_is); (case l31 => k_is); (case c31 => k_is); (case k31 => k_is)
    (case a32 => k_is); (case l32 => k_is); (case c32 => k_is); (case k32 => k_is)
    (case a33 => k_is); (case l33 => k_is); (case c33 => k_is); (case k33 => k_is)
    (case a34 => k_is); (case l34 => k_is); (case c34 => k_is); (case k34 => k_is)
    (case a35 => k_is); (case l35 => k_is); (case c35 => k_is); (case k35 => k_is)
    (case aP => k_is); (case lP => k_is); (case cP => k_is); (case kP => k_is); (case dP => k_is)
    (case z_len => k_is)
    (case z_all => k_is)
    (case z_tuple => k_is)
    (case z_enumerate => k_is)
    (case z_min => k_is)
    (case z_max => k_is)
    (case z_zip => k_is)
    (case z_sorted => k_is)
    (case z_range => k_is)
    (case z_list => k_is)
    (case z_int => k_is)
    (case z_abs => k_is)
    (case g1 => k_is); (case g2 => k_is)
    (case i0 => k_is)
    (case i1 => k_is)
    (case i2 => k_is)
    (case i3 => k_is)
    (case i4 => k_is)
    (case s0 => k_is)
    (case aC => k_is); (case mkC => k_is); (case kC => k_is); (case aI => k_is); (case iI => k_is); (case lI => k_is); (case cI => k_is); (case kI => k_is); (case t0 => k_is); (case t1 => k_is)
    (case pg => k_is); (case hd => k_is); (case po => k_is); (case sa => k_is); (case nW => k_is); (case nH => k_is); (case nP => k_is); (case aM => k_is); (case iM => k_is); (case lM => k_is); (case cM => k_is); (case kM => k_is)
    (case aL => k_is); (case lL => k_is); (case cL => k_is); (case kL => k_is)
    (case ht => rfl)
