import PyProof.Rows.All
import Wide.All
import OpenK.AllK
import Wide.FinOn
import KE.KIntText
import KE.KSortTup
import OpenK.KLine
import OpenK.KRaise
import PyProof.CallFns
import PyProof.CallRoads
import PyProof.CallStr
import PyProof.Calls
import PyProof.Cells
import PyProof.CompFree
import PyProof.CompUse
import PyProof.ConsumeWalk
import PyProof.Conv_int_bool
import PyProof.Dict
import PyProof.DictKinds
import PyProof.DictRoads
import PyProof.EqKinds
import PyProof.EvalArms
import PyProof.ExcArgsOwn
import PyProof.ExcAttrAll.ValueError
import PyProof.ExcBaseAll.ValueError
import PyProof.FString5
import PyProof.ForRange
import PyProof.IsInstanceH
import PyProof.IsRules
import PyProof.IsiH_tuple
import PyProof.IsiHeapPairs
import PyProof.IsiNone
import PyProof.IsiPairs
import PyProof.IsiTuple
import PyProof.LetGo
import PyProof.ListIndex
import PyProof.ListIndexNeg
import PyProof.ListOps
import PyProof.MeetsStr
import PyProof.NeKinds
import PyProof.P3Eq
import PyProof.PlainList
import PyProof.PureInt
import PyProof.RaisesMany
import PyProof.RangeFor
import PyProof.Rows.CatchOwn
import PyProof.Rows.Chain
import PyProof.Rows.EqBoolInt
import PyProof.Rows.Exc
import PyProof.Rows.Lst
import PyProof.Rows.RegReprOcc
import PyProof.Rows.RuleB_floordiv
import PyProof.Rows.RuleB_mod
import PyProof.Rows.RuleB_small
import PyProof.Rows.SortRuns
import PyProof.Rows.SortShell
import PyProof.Rows.SortWalk
import PyProof.Rows.StrInSeq
import PyProof.Rows.StrInSeq3
import PyProof.Rows.StrIntSpec
import PyProof.Rows.StrItems
import PyProof.Rows.StrJoin2
import PyProof.Rows.StrSub
import PyProof.Rows.StrTemp
import PyProof.Rows.TopTwo
import PyProof.Rows.Tup
import PyProof.Rows.TupAssign
import PyProof.Rules2
import PyProof.Rules3
import PyProof.RulesMatch
import PyProof.Seq
import PyProof.SeqI
import PyProof.SliceList
import PyProof.SliceMore
import PyProof.SliceStr2
import PyProof.StrBlock
import PyProof.StrBlockI
import PyProof.StrCalls2
import PyProof.StrCalls3
import PyProof.StrLaws
import PyProof.StrLawsFirst
import PyProof.StrLawsTight
import PyProof.StrOps
import PyProof.StrOps2
import PyProof.StrWalks
import PyProof.TupleIter
import PyProof.TupleOfSeq
import PyProof.WalkInts
import PyProof.WalksMore
import PyProof.WalksPairs
import PySem.Challenge.RW_uf020025_11
set_option Elab.async false
set_option maxRecDepth 100000
set_option linter.all false
set_option genSizeOf false
set_option genInjectivity false
set_option autoImplicit false
set_option genSizeOf false
set_option genInjectivity false
namespace Mine
/-! ## linear arithmetic by a checked sum of premises -/
inductive Ex where
  | v (i : Nat) | c (n : Nat) | p (a b : Ex) | m (k : Nat) (a : Ex)
def ats : List Nat → Nat → Nat
  | [], _ => 0
  | x :: _, 0 => x
  | _ :: l, i + 1 => ats l i
def Ex.den (x : List Nat) : Ex → Nat
  | .v i => ats x i
  | .c n => n
  | .p a b => a.den x + b.den x
  | .m k a => k * a.den x
def padd : List Nat → List Nat → List Nat
  | [], q => q
  | a :: p, [] => a :: p
  | a :: p, b :: q => (a + b) :: padd p q
def pmul (k : Nat) : List Nat → List Nat
  | [] => []
  | a :: p => (k * a) :: pmul k p
def pvar : Nat → List Nat
  | 0 => [1]
  | i + 1 => 0 :: pvar i
def Ex.pol : Ex → List Nat
  | .v i => 0 :: pvar i
  | .c n => [n]
  | .p a b => padd a.pol b.pol
  | .m k a => pmul k a.pol
def ple : List Nat → List Nat → Bool
  | [], _ => true
  | a :: p, [] => a.ble 0 && ple p []
  | a :: p, b :: q => a.ble b && ple p q
def pev : List Nat → List Nat → Nat
  | _, [] => 0
  | [], _ :: _ => 0
  | x :: l, a :: p => a * x + pev l p
theorem pev_add : ∀ (x p q : List Nat), pev x (padd p q) = pev x p + pev x q
  | x, [], q => by cases x <;> simp [padd, pev]
  | [], a :: p, [] => by simp [padd, pev]
  | _ :: _, a :: p, [] => by simp [padd, pev]
  | [], a :: p, b :: q => by simp [padd, pev]
  | x :: l, a :: p, b :: q => by rw [padd, pev, pev, pev, pev_add l p q, Nat.add_mul]; exact Nat.add_add_add_comm ..
theorem pev_mul (k : Nat) : ∀ (x p : List Nat), pev x (pmul k p) = k * pev x p
  | x, [] => by cases x <;> simp [pmul, pev]
  | [], a :: p => by simp [pmul, pev]
  | x :: l, a :: p => by rw [pmul, pev, pev, pev_mul k l p, Nat.mul_add, Nat.mul_assoc]
theorem pev_var : ∀ (x : List Nat) (i : Nat), pev x (pvar i) = ats x i
  | [], 0 => rfl
  | [], i + 1 => rfl
  | x :: l, 0 => by cases l <;> simp [pvar, pev, ats]
  | x :: l, i + 1 => by rw [pvar, pev, pev_var l i, Nat.zero_mul, Nat.zero_add]; rfl
theorem pev_pol (x : List Nat) : ∀ e : Ex, pev (1 :: x) e.pol = e.den x
  | .v i => by rw [Ex.pol, pev, pev_var, Nat.zero_mul, Nat.zero_add]; rfl
  | .c n => by cases x <;> simp [Ex.pol, pev, Ex.den]
  | .p a b => by rw [Ex.pol, pev_add, pev_pol x a, pev_pol x b]; rfl
  | .m k a => by rw [Ex.pol, pev_mul, pev_pol x a]; rfl
theorem pev_le : ∀ (x p q : List Nat), ple p q = true → pev x p ≤ pev x q
  | x, [], q, _ => by cases x <;> exact Nat.zero_le _
  | [], _ :: _, _, _ => Nat.zero_le _
  | x :: l, a :: p, [], h => by
    rw [ple, Bool.and_eq_true] at h
    have h2 := pev_le l p [] h.2
    have h3 : pev l [] = 0 := by cases l <;> rfl
    have h4 : a = 0 := Nat.le_zero.mp (Nat.le_of_ble_eq_true h.1)
    subst h4
    show 0 * x + pev l p ≤ 0
    rw [Nat.zero_mul, Nat.zero_add]
    exact h3 ▸ h2
  | x :: l, a :: p, b :: q, h => by
    rw [ple, Bool.and_eq_true] at h
    exact Nat.add_le_add (Nat.mul_le_mul_right x (Nat.le_of_ble_eq_true h.1)) (pev_le l p q h.2)
/-- a premise: how often, left, right -/
inductive Ps where
  | nil | cons (k : Nat) (l r : Ex) (t : Ps)
def Ps.imp (x : List Nat) (P : Prop) : Ps → Prop
  | .nil => P
  | .cons _ l r t => l.den x ≤ r.den x → t.imp x P
def Ps.l : Ps → List Nat
  | .nil => []
  | .cons k l _ t => padd (pmul k l.pol) t.l
def Ps.r : Ps → List Nat
  | .nil => []
  | .cons k _ r t => padd (pmul k r.pol) t.r
theorem lin_core (x : List Nat) (P : Prop) : ∀ (t : Ps), (pev (1 :: x) t.l ≤ pev (1 :: x) t.r → P) → t.imp x P
  | .nil, h => h (Nat.le_refl _)
  | .cons k l r t, h => fun q => lin_core x P t fun g => h (by
    rw [Ps.l, Ps.r, pev_add, pev_add, pev_mul, pev_mul, pev_pol, pev_pol]
    exact Nat.add_le_add (Nat.mul_le_mul_left k q) g)
theorem lin (x : List Nat) (t : Ps) (l r : Ex) (h : ple (padd l.pol t.r) (padd r.pol t.l) = true) : t.imp x (l.den x ≤ r.den x) := lin_core x _ t fun g => by
  have := pev_le (1 :: x) _ _ h
  rw [pev_add, pev_add, pev_pol, pev_pol] at this
  exact Nat.le_of_add_le_add_right (Nat.le_trans this (Nat.add_le_add_left g _))
/-- no way out -/
theorem linF (x : List Nat) (t : Ps) (h : ple (padd [1] t.r) t.l = true) : t.imp x False := lin_core x _ t fun g => by
  have := pev_le (1 :: x) _ _ h
  rw [pev_add] at this
  have e : pev (1 :: x) [1] = 1 := by cases x <;> rfl
  rw [e] at this
  exact absurd (Nat.le_trans this g) (by rw [Nat.add_comm]; exact Nat.not_succ_le_self _)
theorem subU (a b : Nat) : a ≤ (a - b) + b := Nat.sub_le_iff_le_add.mp (Nat.le_refl _)
theorem subE {a b : Nat} (h : b ≤ a) : (a - b) + b ≤ a := Nat.le_of_eq (Nat.sub_add_cancel h)
theorem subZ {a b : Nat} (h : a ≤ b) : a - b ≤ 0 := Nat.le_of_eq (Nat.sub_eq_zero_of_le h)
theorem minA {a b : Nat} (h : a ≤ b) : a ≤ min a b := Nat.le_min.mpr ⟨Nat.le_refl _, h⟩
theorem minB {a b : Nat} (h : b ≤ a) : b ≤ min a b := Nat.le_min.mpr ⟨h, Nat.le_refl _⟩
theorem maxA {a b : Nat} (h : b ≤ a) : max a b ≤ a := Nat.max_le.mpr ⟨Nat.le_refl _, h⟩
theorem maxB {a b : Nat} (h : a ≤ b) : max a b ≤ b := Nat.max_le.mpr ⟨h, Nat.le_refl _⟩
theorem halfL (a : Nat) : 2 * (a / 2) ≤ a := Nat.mul_div_le a 2
theorem halfU (a : Nat) : a ≤ 2 * (a / 2) + 1 := by have := Nat.div_add_mod a 2; have := Nat.mod_lt a (y := 2) (by decide); omega
theorem neqC {a b : Nat} (h : ¬ a = b) : a + 1 ≤ b ∨ b + 1 ≤ a := Nat.lt_or_gt_of_ne h
end Mine

set_option autoImplicit false
set_option linter.all false
namespace Mine
theorem a0 {x0 x1 : Nat}  (h0 : (x1 = x0)) : (x0 ≤ x1) := (lin [x0, x1] (.cons 1 (.v 0) (.v 1) .nil) (.v 0) (.v 1) rfl (Nat.le_of_eq (Eq.symm h0)))
theorem a1 {x0 x1 : Nat}  (h0 : (x0 ≤ x1)) (h1 : (¬ (x0 = x1))) : (x0 < x1) := (Or.elim (neqC h1) (fun u2 => (lin [x0, x1] (.cons 1 (.p (.v 0) (.c 1)) (.v 1) .nil) (.p (.v 0) (.c 1)) (.v 1) rfl u2)) (fun u3 => (lin [x0, x1] (.cons 2 (.v 0) (.v 1) (.cons 1 (.p (.v 1) (.c 1)) (.v 0) .nil)) (.p (.v 0) (.c 1)) (.v 1) rfl h0 u3)))
theorem a2 {x0 x1 x2 : Nat}  (h0 : (x0 ≤ x1)) (h1 : (x1 < (x2 + 1))) (h2 : (x2 ≤ x0)) : (x0 = x1) := (Nat.le_antisymm (lin [x0, x1] (.cons 1 (.v 0) (.v 1) .nil) (.v 0) (.v 1) rfl h0) (lin [x1, x2, x0] (.cons 1 (.p (.v 0) (.c 1)) (.p (.v 1) (.c 1)) (.cons 1 (.v 1) (.v 2) .nil)) (.v 0) (.v 2) rfl h1 h2))
theorem a3 {x0 x1 x2 x3 : Nat}  (h0 : (x0 ≤ x3)) (h1 : (x2 ≤ x1)) (h2 : (x3 < x2)) : (x0 < x1) := (lin [x0, x3, x2, x1] (.cons 1 (.v 0) (.v 1) (.cons 1 (.v 2) (.v 3) (.cons 1 (.p (.v 1) (.c 1)) (.v 2) .nil))) (.p (.v 0) (.c 1)) (.v 3) rfl h0 h1 h2)
theorem a4 {x0 x1 x2 : Nat}  (h0 : (x0 < (x1 + x2))) : (x0 ≤ ((x1 + x2) - 1)) := (lin [x0, x1, x2, ((x1 + x2) - 1)] (.cons 1 (.p (.v 0) (.c 1)) (.p (.v 1) (.v 2)) (.cons 1 (.p (.v 1) (.v 2)) (.p (.v 3) (.c 1)) .nil)) (.v 0) (.v 3) rfl h0 (subU (x1 + x2) 1))
theorem a5 {x0 x1 x2 : Nat}  (h0 : (x0 ≤ x2)) (h1 : (x1 = x2)) : (x0 ≤ x1) := (lin [x0, x2, x1] (.cons 1 (.v 0) (.v 1) (.cons 1 (.v 1) (.v 2) .nil)) (.v 0) (.v 2) rfl h0 (Nat.le_of_eq (Eq.symm h1)))
theorem a6 {x0 x1 x2 : Nat}  (h0 : (x0 ≤ (x1 + x2))) (h1 : (¬ (x0 = (x1 + x2)))) : (x0 ≤ ((x1 + x2) - 1)) := (Or.elim (neqC h1) (fun u2 => (lin [x1, x2, ((x1 + x2) - 1), x0] (.cons 1 (.p (.v 0) (.v 1)) (.p (.v 2) (.c 1)) (.cons 1 (.p (.v 3) (.c 1)) (.p (.v 0) (.v 1)) .nil)) (.v 3) (.v 2) rfl (subU (x1 + x2) 1) u2)) (fun u3 => (lin [x0, x1, x2, ((x1 + x2) - 1)] (.cons 2 (.v 0) (.p (.v 1) (.v 2)) (.cons 1 (.p (.v 1) (.v 2)) (.p (.v 3) (.c 1)) (.cons 1 (.p (.p (.v 1) (.v 2)) (.c 1)) (.v 0) .nil))) (.v 0) (.v 3) rfl h0 (subU (x1 + x2) 1) u3)))
theorem a7 {x0 x1 : Nat}  (h0 : (1 ≤ x1)) : (((x0 + x1) - 1) < (x0 + x1)) := (lin [((x0 + x1) - 1), x0, x1] (.cons 1 (.p (.v 0) (.c 1)) (.p (.v 1) (.v 2)) .nil) (.p (.v 0) (.c 1)) (.p (.v 1) (.v 2)) rfl (subE (lin [x1, x0] (.cons 1 (.c 1) (.v 0) .nil) (.c 1) (.p (.v 1) (.v 0)) rfl h0)))
theorem a8 {x0 x1 x2 : Nat}  (h0 : (x0 < x2)) (h1 : (x2 ≤ x1)) : (x0 < x1) := (lin [x0, x2, x1] (.cons 1 (.p (.v 0) (.c 1)) (.v 1) (.cons 1 (.v 1) (.v 2) .nil)) (.p (.v 0) (.c 1)) (.v 2) rfl h0 h1)
theorem a9 {x0 x1 x2 x3 x4 x5 : Nat}  (h0 : ((x0 + x1) < x2)) (h1 : ((x3 ≤ x4) ∨ (x2 ≤ x0))) (h2 : ((x4 + x5) < x3)) : False := (Or.elim h1 (fun u1 => (linF [x4, x5, x3] (.cons 1 (.p (.p (.v 0) (.v 1)) (.c 1)) (.v 2) (.cons 1 (.v 2) (.v 0) .nil)) rfl h2 u1)) (fun u2 => (linF [x0, x1, x2] (.cons 1 (.p (.p (.v 0) (.v 1)) (.c 1)) (.v 2) (.cons 1 (.v 2) (.v 0) .nil)) rfl h0 u2)))
theorem a10 {x0 x1 x2 : Int} (h0 : (x0 ≤ x2)) (h1 : (x1 ≤ x0)) (h2 : (x2 ≤ x1)) : (x0 = x1) := (Int.le_antisymm (Int.le_trans h0 h2) h1)
theorem a11 {x0 x1 x2 : Int} (h0 : (x0 ≤ x2)) (h1 : (x2 ≤ x1)) : (x0 ≤ x1) := (Int.le_trans h0 h1)
theorem a12 {x0 x1 : Nat}  (h0 : ((x1 + 1) = x0)) : ((x0 - 1) = x1) := (Nat.le_antisymm (lin [x0, x1, (x0 - 1)] (.cons 1 (.v 0) (.p (.v 1) (.c 1)) (.cons 1 (.p (.v 2) (.c 1)) (.v 0) .nil)) (.v 2) (.v 1) rfl (Nat.le_of_eq (Eq.symm h0)) (subE (lin [x1, x0] (.cons 1 (.p (.v 0) (.c 1)) (.v 1) .nil) (.c 1) (.v 1) rfl (Nat.le_of_eq h0)))) (lin [x1, x0, (x0 - 1)] (.cons 1 (.p (.v 0) (.c 1)) (.v 1) (.cons 1 (.v 1) (.p (.v 2) (.c 1)) .nil)) (.v 0) (.v 2) rfl (Nat.le_of_eq h0) (subU x0 1)))
theorem a13 {x0 x1 : Nat}   : (x0 ≤ (x0 + x1)) := (lin [x0, x1] .nil (.v 0) (.p (.v 0) (.v 1)) rfl )
theorem a14 {x0 x1 x2 x3 x4 : Nat}  (h0 : ((x1 < x3) ∨ (x4 ≤ x1))) (h1 : (x2 ≤ x4)) (h2 : (x3 ≤ x0)) : (¬ ((x0 ≤ x1) ∧ (x1 < x2))) := (fun u1 => (Or.elim h0 (fun u2 => (linF [x3, x0, x1] (.cons 1 (.v 0) (.v 1) (.cons 1 (.v 1) (.v 2) (.cons 1 (.p (.v 2) (.c 1)) (.v 0) .nil))) rfl h2 (And.left u1) u2)) (fun u3 => (linF [x2, x4, x1] (.cons 1 (.v 0) (.v 1) (.cons 1 (.p (.v 2) (.c 1)) (.v 0) (.cons 1 (.v 1) (.v 2) .nil))) rfl h1 (And.right u1) u3))))
theorem a15 {x0 x1 x2 x3 : Nat}  (h0 : ((x3 + (x0 + x1)) < x2)) : ((x0 + x1) < (x2 - x3)) := (lin [x3, x0, x1, x2, (x2 - x3)] (.cons 1 (.p (.p (.v 0) (.p (.v 1) (.v 2))) (.c 1)) (.v 3) (.cons 1 (.v 3) (.p (.v 4) (.v 0)) .nil)) (.p (.p (.v 1) (.v 2)) (.c 1)) (.v 4) rfl h0 (subU x2 x3))
theorem a16 {x0 x1 : Nat}  (h0 : (1 ≤ x1)) : (x0 ≤ ((x0 + x1) - 1)) := (lin [x1, x0, ((x0 + x1) - 1)] (.cons 1 (.c 1) (.v 0) (.cons 1 (.p (.v 1) (.v 0)) (.p (.v 2) (.c 1)) .nil)) (.v 1) (.v 2) rfl h0 (subU (x0 + x1) 1))
theorem a17 {x0 x1 x2 : Nat}  (h0 : (x0 < (x1 + (x2 + 1)))) (h1 : (¬ (x0 = (x1 + x2)))) : (x0 < (x1 + x2)) := (Or.elim (neqC h1) (fun u2 => (lin [x0, x1, x2] (.cons 1 (.p (.v 0) (.c 1)) (.p (.v 1) (.v 2)) .nil) (.p (.v 0) (.c 1)) (.p (.v 1) (.v 2)) rfl u2)) (fun u3 => (lin [x0, x1, x2] (.cons 2 (.p (.v 0) (.c 1)) (.p (.v 1) (.p (.v 2) (.c 1))) (.cons 1 (.p (.p (.v 1) (.v 2)) (.c 1)) (.v 0) .nil)) (.p (.v 0) (.c 1)) (.p (.v 1) (.v 2)) rfl h0 u3)))
theorem a18 {x0 : Nat}   : ((x0 - 1) ≤ x0) := (lin [(x0 - 1), x0] (.cons 1 (.v 0) (.v 1) .nil) (.v 0) (.v 1) rfl (Nat.sub_le x0 1))
theorem a19 {x0 : Nat}   : (x0 ≤ x0) := (lin [x0] .nil (.v 0) (.v 0) rfl )
theorem a20 {x0 : Nat}  (h0 : (1 ≤ x0)) : (0 < x0) := (lin [x0] (.cons 1 (.c 1) (.v 0) .nil) (.p (.c 0) (.c 1)) (.v 0) rfl h0)
theorem a21 {x0 x1 : Int} (h0 : (¬ (x1 < x0))) : (x0 ≤ x1) := (Int.not_lt.mp h0)
theorem a22 {x0 x1 x2 x3 : Nat}  (h0 : ((x0 + x3) ≤ x2)) (h1 : (x1 < x3)) : ((x0 + x1) < x2) := (lin [x0, x3, x2, x1] (.cons 1 (.p (.v 0) (.v 1)) (.v 2) (.cons 1 (.p (.v 3) (.c 1)) (.v 1) .nil)) (.p (.p (.v 0) (.v 3)) (.c 1)) (.v 2) rfl h0 h1)
theorem a23 {x0 x1 x2 : Nat}  (h0 : (x0 < x2)) (h1 : (x1 = x2)) : (x0 < x1) := (lin [x0, x2, x1] (.cons 1 (.p (.v 0) (.c 1)) (.v 1) (.cons 1 (.v 1) (.v 2) .nil)) (.p (.v 0) (.c 1)) (.v 2) rfl h0 (Nat.le_of_eq (Eq.symm h1)))
theorem a24 {x0 x1 x2 x3 : Nat}  (h0 : ((x0 + x3) ≤ x2)) (h1 : (1 ≤ x1)) (h2 : (x1 < x3)) : (((x0 + x1) - 1) < x2) := (lin [x0, x3, x2, x1, ((x0 + x1) - 1)] (.cons 1 (.p (.v 0) (.v 1)) (.v 2) (.cons 1 (.p (.v 3) (.c 1)) (.v 1) (.cons 1 (.p (.v 4) (.c 1)) (.p (.v 0) (.v 3)) .nil))) (.p (.v 4) (.c 1)) (.v 2) rfl h0 h2 (subE (lin [x1, x0] (.cons 1 (.c 1) (.v 0) .nil) (.c 1) (.p (.v 1) (.v 0)) rfl h1)))
theorem a25 {x0 : Nat}  (h0 : ((1 == x0) = true)) : (x0 ≤ 1) := (lin [x0] (.cons 1 (.v 0) (.c 1) .nil) (.v 0) (.c 1) rfl (Nat.le_of_eq (Eq.symm (eq_of_beq h0))))
theorem a26 {x0 x1 x2 : Nat}  (h0 : (x0 ≤ (x1 + x2))) (h1 : (¬ (x0 = (x1 + x2)))) : (x0 < (x1 + x2)) := (Or.elim (neqC h1) (fun u2 => (lin [x0, x1, x2] (.cons 1 (.p (.v 0) (.c 1)) (.p (.v 1) (.v 2)) .nil) (.p (.v 0) (.c 1)) (.p (.v 1) (.v 2)) rfl u2)) (fun u3 => (lin [x0, x1, x2] (.cons 2 (.v 0) (.p (.v 1) (.v 2)) (.cons 1 (.p (.p (.v 1) (.v 2)) (.c 1)) (.v 0) .nil)) (.p (.v 0) (.c 1)) (.p (.v 1) (.v 2)) rfl h0 u3)))
theorem a27 {x0 x1 x2 x3 : Nat}   : (¬ (((x0 + x1) ≤ x2) ∧ ((x2 < ((x0 + x1) + 0)) ∧ (x2 < x3)))) := (fun u1 => (linF [x0, x1, x2] (.cons 1 (.p (.v 0) (.v 1)) (.v 2) (.cons 1 (.p (.v 2) (.c 1)) (.p (.p (.v 0) (.v 1)) (.c 0)) .nil)) rfl (And.left u1) (And.left (And.right u1))))
theorem a28 {x0 x1 x2 : Nat}  (h0 : (x1 < x0)) : (¬ ((x0 ≤ x1) ∧ (x1 < (x0 + x2)))) := (fun u1 => (linF [x1, x0] (.cons 1 (.p (.v 0) (.c 1)) (.v 1) (.cons 1 (.v 1) (.v 0) .nil)) rfl h0 (And.left u1)))
theorem a29 {x0 x1 x2 x3 : Nat}  (h0 : ((x2 + x3) ≤ x1)) (h1 : ((x2 ≤ x0) ∧ (x0 < (x2 + x3)))) : (x0 < x1) := (lin [x2, x3, x1, x0] (.cons 1 (.p (.v 0) (.v 1)) (.v 2) (.cons 1 (.p (.v 3) (.c 1)) (.p (.v 0) (.v 1)) .nil)) (.p (.v 3) (.c 1)) (.v 2) rfl h0 (And.right h1))
theorem a30 {x0 x1 : Nat}  (h0 : (x0 < x1)) : (x0 ≤ x1) := (lin [x0, x1] (.cons 1 (.p (.v 0) (.c 1)) (.v 1) .nil) (.v 0) (.v 1) rfl h0)
theorem a31 {x0 x1 x2 x3 : Nat}  (h0 : ((x1 + x3) ≤ x2)) (h1 : (x0 < x1)) : (x0 < (min x1 x2)) := (lin [x0, x1, (min x1 x2)] (.cons 1 (.p (.v 0) (.c 1)) (.v 1) (.cons 1 (.v 1) (.v 2) .nil)) (.p (.v 0) (.c 1)) (.v 2) rfl h1 (minA (lin [x1, x3, x2] (.cons 1 (.p (.v 0) (.v 1)) (.v 2) .nil) (.v 0) (.v 2) rfl h0)))
theorem a32 {x0 x1 x2 x3 : Nat}  (h0 : ((x0 < x1) ∨ (x3 ≤ x0))) (h1 : (x2 ≤ x3)) : ((x0 < x1) ∨ (x2 ≤ x0)) := (Or.elim h0 (fun u1 => (Or.inl (lin [x0, x1] (.cons 1 (.p (.v 0) (.c 1)) (.v 1) .nil) (.p (.v 0) (.c 1)) (.v 1) rfl u1))) (fun u2 => (Or.inr (lin [x2, x3, x0] (.cons 1 (.v 0) (.v 1) (.cons 1 (.v 1) (.v 2) .nil)) (.v 0) (.v 2) rfl h1 u2))))
theorem a33 {x0 : Nat}  (h0 : (1 ≤ x0)) (h1 : (¬ (((0 + 1) == x0) = true))) : ((0 + 1) < x0) := (Or.elim (neqC (fun q => h1 (beq_iff_eq.mpr q))) (fun u2 => (lin [x0] (.cons 1 (.p (.p (.c 0) (.c 1)) (.c 1)) (.v 0) .nil) (.p (.p (.c 0) (.c 1)) (.c 1)) (.v 0) rfl u2)) (fun u3 => (lin [x0] (.cons 2 (.c 1) (.v 0) (.cons 1 (.p (.v 0) (.c 1)) (.p (.c 0) (.c 1)) .nil)) (.p (.p (.c 0) (.c 1)) (.c 1)) (.v 0) rfl h0 u3)))
theorem a34 {x0 x1 x2 : Int} (h0 : (x0 < x2)) (h1 : (x2 = x1)) : (x0 ≤ x1) := (Int.le_of_lt (Int.lt_of_lt_of_le h0 (Int.le_of_eq h1)))
theorem a35 {x0 x1 x2 x3 : Nat}  (h0 : (¬ ((x0 ≤ x1) ∧ (x1 < (x0 + x2))))) : (¬ ((x0 ≤ x1) ∧ ((x1 < (x0 + x2)) ∧ (x1 < x3)))) := (fun u1 => (Or.elim (Decidable.not_and_iff_or_not.mp h0) (fun u2 => (linF [x0, x1] (.cons 1 (.v 0) (.v 1) (.cons 1 (.p (.v 1) (.c 1)) (.v 0) .nil)) rfl (And.left u1) (Nat.lt_of_not_le u2))) (fun u3 => (linF [x1, x0, x2] (.cons 1 (.p (.v 0) (.c 1)) (.p (.v 1) (.v 2)) (.cons 1 (.p (.v 1) (.v 2)) (.v 0) .nil)) rfl (And.left (And.right u1)) (Nat.le_of_not_lt u3)))))
theorem a36 {x0 : Nat}  (h0 : (1 ≤ x0)) (h1 : (¬ ((1 == x0) = true))) : (1 < x0) := (Or.elim (neqC (fun q => h1 (beq_iff_eq.mpr q))) (fun u2 => (lin [x0] (.cons 1 (.p (.c 1) (.c 1)) (.v 0) .nil) (.p (.c 1) (.c 1)) (.v 0) rfl u2)) (fun u3 => (lin [x0] (.cons 2 (.c 1) (.v 0) (.cons 1 (.p (.v 0) (.c 1)) (.c 1) .nil)) (.p (.c 1) (.c 1)) (.v 0) rfl h0 u3)))
theorem a37 {x0 x1 x2 x3 : Nat}   : (¬ (((x0 + (x1 + 1)) ≤ (x0 + x1)) ∧ (((x0 + x1) < ((x0 + (x1 + 1)) + x2)) ∧ ((x0 + x1) < x3)))) := (fun u1 => (linF [x0, x1] (.cons 1 (.p (.v 0) (.p (.v 1) (.c 1))) (.p (.v 0) (.v 1)) .nil) rfl (And.left u1)))
theorem a38 {x0 x1 x2 : Nat}  (h0 : (¬ (x2 < x0))) : ((min x0 x1) ≤ x2) := (lin [x0, x2, (min x0 x1)] (.cons 1 (.v 0) (.v 1) (.cons 1 (.v 2) (.v 0) .nil)) (.v 2) (.v 1) rfl (Nat.le_of_not_lt h0) (Nat.min_le_left x0 x1))
theorem a40 {x0 x1 x2 x3 : Nat}  (h0 : (x0 ≤ x3)) (h1 : (x3 < (x1 + (x2 + 1)))) (h2 : (¬ (x3 = (x1 + x2)))) : (x0 < (x1 + x2)) := (Or.elim (neqC h2) (fun u2 => (lin [x0, x3, x1, x2] (.cons 1 (.v 0) (.v 1) (.cons 1 (.p (.v 1) (.c 1)) (.p (.v 2) (.v 3)) .nil)) (.p (.v 0) (.c 1)) (.p (.v 2) (.v 3)) rfl h0 u2)) (fun u3 => (lin [x0, x3, x1, x2] (.cons 1 (.v 0) (.v 1) (.cons 2 (.p (.v 1) (.c 1)) (.p (.v 2) (.p (.v 3) (.c 1))) (.cons 1 (.p (.p (.v 2) (.v 3)) (.c 1)) (.v 1) .nil))) (.p (.v 0) (.c 1)) (.p (.v 2) (.v 3)) rfl h0 h1 u3)))
theorem a41 {x0 x1 : Nat}   : ((x0 + x1) ≤ (x0 + x1)) := (lin [x0, x1] .nil (.p (.v 0) (.v 1)) (.p (.v 0) (.v 1)) rfl )
theorem a42 {x0 x1 x2 x3 x4 : Nat}  (h0 : (x0 ≤ x1)) (h1 : (x1 < (x3 + (min (max x2 1) x4)))) (h2 : (x2 = 0)) (h3 : (x3 ≤ x0)) : (x0 = x1) := (Nat.le_antisymm (lin [x0, x1] (.cons 1 (.v 0) (.v 1) .nil) (.v 0) (.v 1) rfl h0) (lin [(min (max x2 1) x4), (max x2 1), x1, x3, x0] (.cons 1 (.v 0) (.v 1) (.cons 1 (.p (.v 2) (.c 1)) (.p (.v 3) (.v 0)) (.cons 1 (.v 3) (.v 4) (.cons 1 (.v 1) (.c 1) .nil)))) (.v 2) (.v 4) rfl (Nat.min_le_left (max x2 1) x4) h1 h3 (maxB (lin [x2] (.cons 1 (.v 0) (.c 0) .nil) (.v 0) (.c 1) rfl (Nat.le_of_eq h2)))))
theorem a43   : ((0 + 1) ≤ (0 + 1)) := (lin [] .nil (.p (.c 0) (.c 1)) (.p (.c 0) (.c 1)) rfl )
theorem a44 {x0 x1 x2 : Nat}  (h0 : ((x0 + x2) ≤ x1)) : ((min x0 x1) = x0) := (Nat.le_antisymm (lin [(min x0 x1), x0] (.cons 1 (.v 0) (.v 1) .nil) (.v 0) (.v 1) rfl (Nat.min_le_left x0 x1)) (lin [x0, (min x0 x1)] (.cons 1 (.v 0) (.v 1) .nil) (.v 0) (.v 1) rfl (minA (lin [x0, x2, x1] (.cons 1 (.p (.v 0) (.v 1)) (.v 2) .nil) (.v 0) (.v 2) rfl h0))))
theorem a45 {x0 x1 x2 : Nat}   : ((x0 + x1) < ((x0 + x1) + (x2 + 1))) := (lin [x0, x1, x2] .nil (.p (.p (.v 0) (.v 1)) (.c 1)) (.p (.p (.v 0) (.v 1)) (.p (.v 2) (.c 1))) rfl )
theorem a46 {x0 x1 x2 x3 : Nat}  (h0 : (x0 < (x1 + (min (max x2 1) x3)))) (h1 : (¬ (x2 = 0))) : (x0 < (x1 + x2)) := (Or.elim (neqC h1) (fun u2 => (lin [(min (max x2 1) x3), (max x2 1), x0, x1, x2] (.cons 1 (.v 0) (.v 1) (.cons 1 (.p (.v 2) (.c 1)) (.p (.v 3) (.v 0)) (.cons 1 (.p (.v 4) (.c 1)) (.c 0) (.cons 1 (.v 1) (.c 1) .nil)))) (.p (.v 2) (.c 1)) (.p (.v 3) (.v 4)) rfl (Nat.min_le_left (max x2 1) x3) h0 u2 (maxB (lin [x2] (.cons 1 (.p (.v 0) (.c 1)) (.c 0) .nil) (.v 0) (.c 1) rfl u2)))) (fun u3 => (lin [(min (max x2 1) x3), (max x2 1), x0, x1, x2] (.cons 1 (.v 0) (.v 1) (.cons 1 (.p (.v 2) (.c 1)) (.p (.v 3) (.v 0)) (.cons 1 (.v 1) (.v 4) .nil))) (.p (.v 2) (.c 1)) (.p (.v 3) (.v 4)) rfl (Nat.min_le_left (max x2 1) x3) h0 (maxA (lin [x2] (.cons 1 (.p (.c 0) (.c 1)) (.v 0) .nil) (.c 1) (.v 0) rfl u3)))))
theorem a47 {x0 x1 : Nat}  (h0 : (¬ (x1 < x0))) : (x0 ≤ x1) := (lin [x0, x1] (.cons 1 (.v 0) (.v 1) .nil) (.v 0) (.v 1) rfl (Nat.le_of_not_lt h0))
theorem a48 {x0 x1 : Nat}  (h0 : (x0 = x1)) : (x0 ≤ x1) := (lin [x0, x1] (.cons 1 (.v 0) (.v 1) .nil) (.v 0) (.v 1) rfl (Nat.le_of_eq h0))
theorem a49 {x0 x1 x2 : Nat}  (h0 : (x0 ≤ x2)) (h1 : (x2 ≤ x1)) : (x0 ≤ x1) := (lin [x0, x2, x1] (.cons 1 (.v 0) (.v 1) (.cons 1 (.v 1) (.v 2) .nil)) (.v 0) (.v 2) rfl h0 h1)
theorem a50 {x0 : Nat}   : (1 ≤ (max 1 x0)) := (lin [(max 1 x0)] (.cons 1 (.c 1) (.v 0) .nil) (.c 1) (.v 0) rfl (Nat.le_max_left 1 x0))
theorem a51 {x0 x1 x2 : Nat}  (h0 : (x0 ≤ x2)) (h1 : (x2 < x1)) : (x0 < x1) := (lin [x0, x2, x1] (.cons 1 (.v 0) (.v 1) (.cons 1 (.p (.v 1) (.c 1)) (.v 2) .nil)) (.p (.v 0) (.c 1)) (.v 2) rfl h0 h1)
theorem a52 {x0 x1 x2 x3 : Nat}  (h0 : (((x0 + x3) + x1) ≤ x2)) (h1 : (1 ≤ x3)) : ((x0 + (x1 + 1)) ≤ x2) := (lin [x0, x3, x1, x2] (.cons 1 (.p (.p (.v 0) (.v 1)) (.v 2)) (.v 3) (.cons 1 (.c 1) (.v 1) .nil)) (.p (.v 0) (.p (.v 2) (.c 1))) (.v 3) rfl h0 h1)
theorem a53 {x0 : Nat}  (h0 : (1 ≤ x0)) : ((max 1 x0) ≤ x0) := (lin [(max 1 x0), x0] (.cons 1 (.v 0) (.v 1) .nil) (.v 0) (.v 1) rfl (maxB (lin [x0] (.cons 1 (.c 1) (.v 0) .nil) (.c 1) (.v 0) rfl h0)))
theorem a54 {x0 x1 x2 : Nat}  (h0 : (x0 < (x1 + x2))) (h1 : (¬ (x0 < x1))) : ((x0 - x1) < x2) := (lin [x0, x1, x2, (x0 - x1)] (.cons 1 (.p (.v 0) (.c 1)) (.p (.v 1) (.v 2)) (.cons 1 (.p (.v 3) (.v 1)) (.v 0) .nil)) (.p (.v 3) (.c 1)) (.v 2) rfl h0 (subE (lin [x1, x0] (.cons 1 (.v 0) (.v 1) .nil) (.v 0) (.v 1) rfl (Nat.le_of_not_lt h1))))
theorem a55 {x0 : Nat}  (h0 : (1 ≤ x0)) : ((max 1 x0) = x0) := (Nat.le_antisymm (lin [(max 1 x0), x0] (.cons 1 (.v 0) (.v 1) .nil) (.v 0) (.v 1) rfl (maxB (lin [x0] (.cons 1 (.c 1) (.v 0) .nil) (.c 1) (.v 0) rfl h0))) (lin [x0, (max 1 x0)] (.cons 1 (.v 0) (.v 1) .nil) (.v 0) (.v 1) rfl (Nat.le_max_right 1 x0)))
theorem a57 {x0 x1 : Nat}   : ((min (max (max x0 1) x1) x1) = x1) := (Nat.le_antisymm (lin [(min (max (max x0 1) x1) x1), x1] (.cons 1 (.v 0) (.v 1) .nil) (.v 0) (.v 1) rfl (Nat.min_le_right (max (max x0 1) x1) x1)) (lin [x1, (min (max (max x0 1) x1) x1)] (.cons 1 (.v 0) (.v 1) .nil) (.v 0) (.v 1) rfl (minB (lin [x1, (max (max x0 1) x1)] (.cons 1 (.v 0) (.v 1) .nil) (.v 0) (.v 1) rfl (Nat.le_max_right (max x0 1) x1)))))
theorem a58 {x0 x1 x2 x3 : Nat}  (h0 : (((max 0 (x1 + x2)) + 1) ≤ (x0 + x3))) (h1 : ((x0 + 1) < x1)) (h2 : (x3 < x2)) : False := (linF [x1, x2, (max 0 (x1 + x2)), x0, x3] (.cons 1 (.p (.v 0) (.v 1)) (.v 2) (.cons 1 (.p (.v 2) (.c 1)) (.p (.v 3) (.v 4)) (.cons 1 (.p (.p (.v 3) (.c 1)) (.c 1)) (.v 0) (.cons 1 (.p (.v 4) (.c 1)) (.v 1) .nil)))) rfl (Nat.le_max_right 0 (x1 + x2)) h0 h1 h2)
theorem a59 {x0 : Nat}  (h0 : (0 < x0)) : ((x0 - 1) ≤ x0) := (lin [(x0 - 1), x0] (.cons 1 (.p (.v 0) (.c 1)) (.v 1) .nil) (.v 0) (.v 1) rfl (subE (lin [x0] (.cons 1 (.p (.c 0) (.c 1)) (.v 0) .nil) (.c 1) (.v 0) rfl h0)))
theorem a60 {x0 x1 x2 : Nat}  (h0 : (¬ (x1 < (x0 + x2)))) : (¬ ((x0 ≤ x1) ∧ (x1 < (x0 + x2)))) := (fun u1 => (linF [x0, x2, x1] (.cons 1 (.p (.v 0) (.v 1)) (.v 2) (.cons 1 (.p (.v 2) (.c 1)) (.p (.v 0) (.v 1)) .nil)) rfl (Nat.le_of_not_lt h0) (And.right u1)))
theorem a61 {x0 x1 : Nat}  (h0 : ((x0 - 1) < x1)) (h1 : (0 < x0)) : ((x0 - 1) < (min x0 x1)) := (lin [(x0 - 1), x0, (min x0 x1)] (.cons 1 (.p (.v 0) (.c 1)) (.v 1) (.cons 1 (.v 1) (.v 2) .nil)) (.p (.v 0) (.c 1)) (.v 2) rfl (subE (lin [x0] (.cons 1 (.p (.c 0) (.c 1)) (.v 0) .nil) (.c 1) (.v 0) rfl h1)) (minA (lin [x0, (x0 - 1), x1] (.cons 1 (.v 0) (.p (.v 1) (.c 1)) (.cons 1 (.p (.v 1) (.c 1)) (.v 2) .nil)) (.v 0) (.v 2) rfl (subU x0 1) h0)))
theorem a62 {x0 x1 x2 x3 : Nat}  (h0 : (¬ ((x0 + x1) < x3))) : (¬ (((x0 + x1) ≤ (x0 + x1)) ∧ (((x0 + x1) < ((x0 + x1) + (x2 + 1))) ∧ ((x0 + x1) < x3)))) := (fun u1 => (linF [x3, x0, x1] (.cons 1 (.v 0) (.p (.v 1) (.v 2)) (.cons 1 (.p (.p (.v 1) (.v 2)) (.c 1)) (.v 0) .nil)) rfl (Nat.le_of_not_lt h0) (And.right (And.right u1))))
theorem a63 {x0 x1 : Nat}  (h0 : (x0 < x1)) : ((min x0 x1) = x0) := (Nat.le_antisymm (lin [(min x0 x1), x0] (.cons 1 (.v 0) (.v 1) .nil) (.v 0) (.v 1) rfl (Nat.min_le_left x0 x1)) (lin [x0, (min x0 x1)] (.cons 1 (.v 0) (.v 1) .nil) (.v 0) (.v 1) rfl (minA (lin [x0, x1] (.cons 1 (.p (.v 0) (.c 1)) (.v 1) .nil) (.v 0) (.v 1) rfl h0))))
theorem a64 {x0 x1 : Nat}  (h0 : (x0 ≤ x1)) : ((x0 + (x1 - x0)) = x1) := (Nat.le_antisymm (lin [(x1 - x0), x0, x1] (.cons 1 (.p (.v 0) (.v 1)) (.v 2) .nil) (.p (.v 1) (.v 0)) (.v 2) rfl (subE (lin [x0, x1] (.cons 1 (.v 0) (.v 1) .nil) (.v 0) (.v 1) rfl h0))) (lin [x1, (x1 - x0), x0] (.cons 1 (.v 0) (.p (.v 1) (.v 2)) .nil) (.v 0) (.p (.v 2) (.v 1)) rfl (subU x1 x0)))
theorem a65 {x0 x1 x2 x3 x4 : Nat}  (h0 : (((x2 + x3) + x4) ≤ x1)) (h1 : (x0 < (x2 + x3))) : (x0 < x1) := (lin [x2, x3, x4, x1, x0] (.cons 1 (.p (.p (.v 0) (.v 1)) (.v 2)) (.v 3) (.cons 1 (.p (.v 4) (.c 1)) (.p (.v 0) (.v 1)) .nil)) (.p (.v 4) (.c 1)) (.v 3) rfl h0 h1)
theorem a66 {x0 x1 x2 : Nat}  (h0 : (¬ (x1 < (x2 + x0)))) : (x0 ≤ (x1 - x2)) := (lin [x2, x0, x1, (x1 - x2)] (.cons 1 (.p (.v 0) (.v 1)) (.v 2) (.cons 1 (.v 2) (.p (.v 3) (.v 0)) .nil)) (.v 1) (.v 3) rfl (Nat.le_of_not_lt h0) (subU x1 x2))
theorem a67 {x0 x1 x2 : Nat}  (h0 : ((x0 + x2) ≤ x1)) : (x0 ≤ x1) := (lin [x0, x2, x1] (.cons 1 (.p (.v 0) (.v 1)) (.v 2) .nil) (.v 0) (.v 2) rfl h0)
theorem a68 {x0 x1 : Nat}  (h0 : ((x0 + 1) < x1)) : ((min x0 x1) = x0) := (Nat.le_antisymm (lin [(min x0 x1), x0] (.cons 1 (.v 0) (.v 1) .nil) (.v 0) (.v 1) rfl (Nat.min_le_left x0 x1)) (lin [x0, (min x0 x1)] (.cons 1 (.v 0) (.v 1) .nil) (.v 0) (.v 1) rfl (minA (lin [x0, x1] (.cons 1 (.p (.p (.v 0) (.c 1)) (.c 1)) (.v 1) .nil) (.v 0) (.v 1) rfl h0))))
theorem a69 {x0 : Nat}   : (0 ≤ x0) := (lin [x0] .nil (.c 0) (.v 0) rfl )
theorem a70 {x0 x1 x2 : Nat}  (h0 : (¬ ((x1 + x2) < x0))) : (x0 ≤ (x1 + x2)) := (lin [x0, x1, x2] (.cons 1 (.v 0) (.p (.v 1) (.v 2)) .nil) (.v 0) (.p (.v 1) (.v 2)) rfl (Nat.le_of_not_lt h0))
theorem a72 {x0 x1 x2 : Nat}  (h0 : ((x0 + x2) ≤ x1)) (h1 : (1 ≤ x2)) : (x0 < x1) := (lin [x0, x2, x1] (.cons 1 (.p (.v 0) (.v 1)) (.v 2) (.cons 1 (.c 1) (.v 1) .nil)) (.p (.v 0) (.c 1)) (.v 2) rfl h0 h1)
theorem a73 {x0 x1 x2 : Nat}  (h0 : (¬ (x0 < (x1 + x2)))) : (x0 = ((x1 + x2) + ((x0 - x1) - x2))) := (Nat.le_antisymm (lin [(x0 - x1), ((x0 - x1) - x2), x2, x0, x1] (.cons 1 (.v 0) (.p (.v 1) (.v 2)) (.cons 1 (.v 3) (.p (.v 0) (.v 4)) .nil)) (.v 3) (.p (.p (.v 4) (.v 2)) (.v 1)) rfl (subU (x0 - x1) x2) (subU x0 x1)) (lin [((x0 - x1) - x2), x2, (x0 - x1), x1, x0] (.cons 1 (.p (.v 0) (.v 1)) (.v 2) (.cons 1 (.p (.v 2) (.v 3)) (.v 4) .nil)) (.p (.p (.v 3) (.v 1)) (.v 0)) (.v 4) rfl (subE (lin [x1, x2, x0, (x0 - x1)] (.cons 1 (.p (.v 0) (.v 1)) (.v 2) (.cons 1 (.v 2) (.p (.v 3) (.v 0)) .nil)) (.v 1) (.v 3) rfl (Nat.le_of_not_lt h0) (subU x0 x1))) (subE (lin [x1, x2, x0] (.cons 1 (.p (.v 0) (.v 1)) (.v 2) .nil) (.v 0) (.v 2) rfl (Nat.le_of_not_lt h0)))))
theorem a74 {x0 x1 : Nat}   : ((min x0 x1) ≤ ((x0 - 1) + 1)) := (lin [(min x0 x1), x0, (x0 - 1)] (.cons 1 (.v 0) (.v 1) (.cons 1 (.v 1) (.p (.v 2) (.c 1)) .nil)) (.v 0) (.p (.v 2) (.c 1)) rfl (Nat.min_le_left x0 x1) (subU x0 1))
theorem a75 {x0 : Nat}   : ((x0 - 0) ≤ (x0 - 0)) := (lin [(x0 - 0)] .nil (.v 0) (.v 0) rfl )
theorem a76 {x0 : Nat}  (h0 : (x0 < 0)) : False := (linF [x0] (.cons 1 (.p (.v 0) (.c 1)) (.c 0) .nil) rfl h0)
theorem a77 {x0 x1 : Nat}  (h0 : (x0 = x1)) : (x0 ≤ (x1 + 1)) := (lin [x0, x1] (.cons 1 (.v 0) (.v 1) .nil) (.v 0) (.p (.v 1) (.c 1)) rfl (Nat.le_of_eq h0))
theorem a78 {x0 x1 x2 x3 : Nat}  (h0 : ((x0 + x3) ≤ x2)) (h1 : (1 ≤ x1)) (h2 : (x1 ≤ x3)) : (((x0 + x1) - 1) < x2) := (lin [x0, x3, x2, x1, ((x0 + x1) - 1)] (.cons 1 (.p (.v 0) (.v 1)) (.v 2) (.cons 1 (.v 3) (.v 1) (.cons 1 (.p (.v 4) (.c 1)) (.p (.v 0) (.v 3)) .nil))) (.p (.v 4) (.c 1)) (.v 2) rfl h0 h2 (subE (lin [x1, x0] (.cons 1 (.c 1) (.v 0) .nil) (.c 1) (.p (.v 1) (.v 0)) rfl h1)))
theorem a79   : (0 ≤ 0) := (lin [] .nil (.c 0) (.c 0) rfl )
theorem a80 {x0 x1 x2 x3 x4 x5 x6 : Nat}  (h0 : (((x4 + x5) + (max 0 (x1 + x3))) ≤ (x0 + x2))) (h1 : ((x0 + 1) < x1)) (h2 : ((x6 + 1) ≤ (x4 + x5))) (h3 : (x2 < x3)) : False := (linF [x1, x3, (max 0 (x1 + x3)), x4, x5, x0, x2, x6] (.cons 1 (.p (.v 0) (.v 1)) (.v 2) (.cons 1 (.p (.p (.v 3) (.v 4)) (.v 2)) (.p (.v 5) (.v 6)) (.cons 1 (.p (.p (.v 5) (.c 1)) (.c 1)) (.v 0) (.cons 1 (.p (.v 7) (.c 1)) (.p (.v 3) (.v 4)) (.cons 1 (.p (.v 6) (.c 1)) (.v 1) .nil))))) rfl (Nat.le_max_right 0 (x1 + x3)) h0 h1 h2 h3)
theorem a81 {x0 : Nat}   : (((x0 + 1) - x0) = 1) := (Nat.le_antisymm (lin [((x0 + 1) - x0), x0] (.cons 1 (.p (.v 0) (.v 1)) (.p (.v 1) (.c 1)) .nil) (.v 0) (.c 1) rfl (subE (lin [x0] .nil (.v 0) (.p (.v 0) (.c 1)) rfl ))) (lin [x0, ((x0 + 1) - x0)] (.cons 1 (.p (.v 0) (.c 1)) (.p (.v 1) (.v 0)) .nil) (.c 1) (.v 1) rfl (subU (x0 + 1) x0)))
theorem a82 {x0 : Nat}  (h0 : (1 ≤ x0)) : ((x0 - 1) < x0) := (lin [(x0 - 1), x0] (.cons 1 (.p (.v 0) (.c 1)) (.v 1) .nil) (.p (.v 0) (.c 1)) (.v 1) rfl (subE (lin [x0] (.cons 1 (.c 1) (.v 0) .nil) (.c 1) (.v 0) rfl h0)))
theorem a83 {x0 x1 : Nat}  (h0 : (x0 < x1)) (h1 : (x1 ≤ x0)) : False := (linF [x0, x1] (.cons 1 (.p (.v 0) (.c 1)) (.v 1) (.cons 1 (.v 1) (.v 0) .nil)) rfl h0 h1)
theorem a84 {x0 x1 : Nat}  (h0 : ((max 0 x1) ≤ x0)) (h1 : (x0 ≤ x1)) : (x0 = x1) := (Nat.le_antisymm (lin [x0, x1] (.cons 1 (.v 0) (.v 1) .nil) (.v 0) (.v 1) rfl h1) (lin [x1, (max 0 x1), x0] (.cons 1 (.v 0) (.v 1) (.cons 1 (.v 1) (.v 2) .nil)) (.v 0) (.v 2) rfl (Nat.le_max_right 0 x1) h0))
theorem a85 {x0 x1 x2 x3 x4 : Nat}  (h0 : (((x0 + (x1 + 1)) ≤ x2) ∧ ((x2 < ((x0 + (x1 + 1)) + x3)) ∧ (x2 < x4)))) : ((x0 + x1) ≤ x2) := (lin [x0, x1, x2] (.cons 1 (.p (.v 0) (.p (.v 1) (.c 1))) (.v 2) .nil) (.p (.v 0) (.v 1)) (.v 2) rfl (And.left h0))
theorem a86 {x0 x1 x2 : Nat}  (h0 : ((x1 - x0) ≤ (x2 - (max 0 x2)))) (h1 : (x0 ≤ x1)) : (x0 = x1) := (Nat.le_antisymm (lin [(x1 - x0), x0, x1] (.cons 1 (.p (.v 0) (.v 1)) (.v 2) .nil) (.v 1) (.v 2) rfl (subE (lin [x0, x1] (.cons 1 (.v 0) (.v 1) .nil) (.v 0) (.v 1) rfl h1))) (lin [x1, (x1 - x0), x0, (x2 - (max 0 x2))] (.cons 1 (.v 0) (.p (.v 1) (.v 2)) (.cons 1 (.v 1) (.v 3) (.cons 1 (.v 3) (.c 0) .nil))) (.v 0) (.v 2) rfl (subU x1 x0) h0 (subZ (lin [x2, (max 0 x2)] (.cons 1 (.v 0) (.v 1) .nil) (.v 0) (.v 1) rfl (Nat.le_max_right 0 x2)))))
theorem a88 {x0 : Nat}   : (((x0 + 2) - x0) = 2) := (Nat.le_antisymm (lin [((x0 + 2) - x0), x0] (.cons 1 (.p (.v 0) (.v 1)) (.p (.v 1) (.c 2)) .nil) (.v 0) (.c 2) rfl (subE (lin [x0] .nil (.v 0) (.p (.v 0) (.c 2)) rfl ))) (lin [x0, ((x0 + 2) - x0)] (.cons 1 (.p (.v 0) (.c 2)) (.p (.v 1) (.v 0)) .nil) (.c 2) (.v 1) rfl (subU (x0 + 2) x0)))
theorem a89 {x0 x1 : Nat}  (h0 : (x0 ≤ x1)) (h1 : (x0 ≥ x1)) : (x0 = x1) := (Nat.le_antisymm (lin [x0, x1] (.cons 1 (.v 0) (.v 1) .nil) (.v 0) (.v 1) rfl h0) (lin [x1, x0] (.cons 1 (.v 0) (.v 1) .nil) (.v 0) (.v 1) rfl h1))
theorem a90 {x0 x1 : Nat}  (h0 : (x0 = x1)) : (x0 ≤ (x1 + 2)) := (lin [x0, x1] (.cons 1 (.v 0) (.v 1) .nil) (.v 0) (.p (.v 1) (.c 2)) rfl (Nat.le_of_eq h0))
theorem a91 {x0 x1 x2 x3 : Nat}  (h0 : ((x0 + x3) ≤ x2)) (h1 : (x1 ≤ x3)) : ((x0 + x1) ≤ x2) := (lin [x0, x3, x2, x1] (.cons 1 (.p (.v 0) (.v 1)) (.v 2) (.cons 1 (.v 3) (.v 1) .nil)) (.p (.v 0) (.v 3)) (.v 2) rfl h0 h1)
theorem a92 {x0 x1 x2 x3 x4 : Nat}  (h0 : (((x1 + (x2 + 1)) ≤ x0) ∧ ((x0 < ((x1 + (x2 + 1)) + x3)) ∧ (x0 < x4)))) : (x0 < ((x1 + x2) + (x3 + 1))) := (lin [x0, x1, x2, x3] (.cons 1 (.p (.v 0) (.c 1)) (.p (.p (.v 1) (.p (.v 2) (.c 1))) (.v 3)) .nil) (.p (.v 0) (.c 1)) (.p (.p (.v 1) (.v 2)) (.p (.v 3) (.c 1))) rfl (And.left (And.right h0)))
theorem a93 {x0 x1 : Nat}  (h0 : ((x0 + 1) < x1)) : (x0 < x1) := (lin [x0, x1] (.cons 1 (.p (.p (.v 0) (.c 1)) (.c 1)) (.v 1) .nil) (.p (.v 0) (.c 1)) (.v 1) rfl h0)
theorem a94 {x0 x1 : Nat}  (h0 : (¬ (x0 ≥ x1))) : ((x0 + (x1 - x0)) ≤ x1) := (lin [(x1 - x0), x0, x1] (.cons 1 (.p (.v 0) (.v 1)) (.v 2) .nil) (.p (.v 1) (.v 0)) (.v 2) rfl (subE (lin [x0, x1] (.cons 1 (.p (.v 0) (.c 1)) (.v 1) .nil) (.v 0) (.v 1) rfl (Nat.lt_of_not_le h0))))
theorem a95 {x0 x1 x2 x3 x4 x5 : Nat}  (h0 : ((x0 + x4) ≤ x3)) (h1 : (x2 ≤ x5)) (h2 : (x5 < x4)) (h3 : (¬ (x1 ≥ x2))) : ((x0 + ((x1 + x2) / 2)) < x3) := (Nat.le_of_not_lt fun u1 => (linF [x0, x4, x3, x2, x5, x1, ((x1 + x2) / 2)] (.cons 2 (.p (.v 0) (.v 1)) (.v 2) (.cons 2 (.v 3) (.v 4) (.cons 2 (.p (.v 4) (.c 1)) (.v 1) (.cons 1 (.p (.v 5) (.c 1)) (.v 3) (.cons 1 (.m 2 (.v 6)) (.p (.v 5) (.v 3)) (.cons 2 (.p (.v 2) (.c 1)) (.p (.p (.v 0) (.v 6)) (.c 1)) .nil)))))) rfl h0 h1 h2 (Nat.lt_of_not_le h3) (halfL (x1 + x2)) u1))
theorem a96 {x0 x1 : Nat}  (h0 : (¬ (x1 ≥ x0))) : (1 ≤ (x0 - x1)) := (lin [x1, x0, (x0 - x1)] (.cons 1 (.p (.v 0) (.c 1)) (.v 1) (.cons 1 (.v 1) (.p (.v 2) (.v 0)) .nil)) (.c 1) (.v 2) rfl (Nat.lt_of_not_le h0) (subU x0 x1))
theorem a97 {x0 x1 x2 : Nat}  (h0 : ((x0 ≤ x1) ∧ (x1 < (x0 + x2)))) : (x0 ≤ x1) := (lin [x0, x1] (.cons 1 (.v 0) (.v 1) .nil) (.v 0) (.v 1) rfl (And.left h0))
theorem a98 {x0 x1 x2 : Int} (h0 : (x0 < x2)) (h1 : (x2 ≤ x1)) : (x0 ≤ x1) := (Int.le_of_lt (Int.lt_of_lt_of_le h0 h1))
theorem a99 {x0 x1 x2 x3 x4 : Nat}  (h0 : (((x1 + (x2 + 1)) ≤ x0) ∧ ((x0 < ((x1 + (x2 + 1)) + x3)) ∧ (x0 < x4)))) : ((x0 - (x1 + x2)) = ((x0 - (x1 + (x2 + 1))) + 1)) := (Nat.le_antisymm (lin [x0, (x0 - (x1 + (x2 + 1))), x1, x2, (x0 - (x1 + x2))] (.cons 1 (.v 0) (.p (.v 1) (.p (.v 2) (.p (.v 3) (.c 1)))) (.cons 1 (.p (.v 4) (.p (.v 2) (.v 3))) (.v 0) .nil)) (.v 4) (.p (.v 1) (.c 1)) rfl (subU x0 (x1 + (x2 + 1))) (subE (lin [x1, x2, x0] (.cons 1 (.p (.v 0) (.p (.v 1) (.c 1))) (.v 2) .nil) (.p (.v 0) (.v 1)) (.v 2) rfl (And.left h0)))) (lin [x0, (x0 - (x1 + x2)), x1, x2, (x0 - (x1 + (x2 + 1)))] (.cons 1 (.v 0) (.p (.v 1) (.p (.v 2) (.v 3))) (.cons 1 (.p (.v 4) (.p (.v 2) (.p (.v 3) (.c 1)))) (.v 0) .nil)) (.p (.v 4) (.c 1)) (.v 1) rfl (subU x0 (x1 + x2)) (subE (lin [x1, x2, x0] (.cons 1 (.p (.v 0) (.p (.v 1) (.c 1))) (.v 2) .nil) (.p (.v 0) (.p (.v 1) (.c 1))) (.v 2) rfl (And.left h0)))))
theorem a100 {x0 x1 x2 : Nat}  (h0 : ((x1 ≤ x0) ∧ (x0 < (x1 + x2)))) : (x0 < (x1 + (x2 + 1))) := (lin [x0, x1, x2] (.cons 1 (.p (.v 0) (.c 1)) (.p (.v 1) (.v 2)) .nil) (.p (.v 0) (.c 1)) (.p (.v 1) (.p (.v 2) (.c 1))) rfl (And.right h0))
theorem a101 {x0 : Nat}  (h0 : (¬ (((x0 - 1) == 0) = true))) : (0 < (x0 - 1)) := (Or.elim (neqC (fun q => h0 (beq_iff_eq.mpr q))) (fun u2 => (lin [(x0 - 1)] (.cons 1 (.p (.v 0) (.c 1)) (.c 0) .nil) (.p (.c 0) (.c 1)) (.v 0) rfl u2)) (fun u3 => (lin [(x0 - 1)] (.cons 1 (.p (.c 0) (.c 1)) (.v 0) .nil) (.p (.c 0) (.c 1)) (.v 0) rfl u3)))
theorem a102 {x0 x1 x2 x3 : Nat}  (h0 : (1 ≤ x3)) (h1 : (x3 ≤ (x1 - x0))) : ((x0 + (min (x1 - x0) x2)) ≤ x1) := (Or.elim (Nat.le_total x1 x0) (fun u2 => (False.elim (linF [x3, (x1 - x0)] (.cons 1 (.c 1) (.v 0) (.cons 1 (.v 0) (.v 1) (.cons 1 (.v 1) (.c 0) .nil))) rfl h0 h1 (subZ u2)))) (fun u3 => (lin [(min (x1 - x0) x2), (x1 - x0), x0, x1] (.cons 1 (.v 0) (.v 1) (.cons 1 (.p (.v 1) (.v 2)) (.v 3) .nil)) (.p (.v 2) (.v 0)) (.v 3) rfl (Nat.min_le_left (x1 - x0) x2) (subE u3))))
theorem a103 {x0 x1 x2 x3 x4 x5 : Nat}  (h0 : ((((x0 + x1) + x2) + x5) ≤ x4)) (h1 : (x4 ≤ x3)) : (((x0 + x1) + x2) ≤ x3) := (lin [x0, x1, x2, x5, x4, x3] (.cons 1 (.p (.p (.p (.v 0) (.v 1)) (.v 2)) (.v 3)) (.v 4) (.cons 1 (.v 4) (.v 5) .nil)) (.p (.p (.v 0) (.v 1)) (.v 2)) (.v 5) rfl h0 h1)
theorem a104 {x0 x1 x2 x3 x4 x5 : Nat}  (h0 : ((((x1 + x2) + x3) + x5) ≤ x4)) (h1 : (x4 ≤ x0)) : ((x0 < x1) ∨ (((x1 + x2) + x3) ≤ x0)) := (Or.inr (lin [x1, x2, x3, x5, x4, x0] (.cons 1 (.p (.p (.p (.v 0) (.v 1)) (.v 2)) (.v 3)) (.v 4) (.cons 1 (.v 4) (.v 5) .nil)) (.p (.p (.v 0) (.v 1)) (.v 2)) (.v 5) rfl h0 h1))
theorem a106 {x0 x1 x2 x3 : Nat}  (h0 : (x0 < x3)) (h1 : (x0 ≤ (x1 - x2))) : (x0 ≤ (min (x1 - x2) x3)) := (Or.elim (Nat.le_total x1 x2) (fun u2 => (lin [x0, (x1 - x2), (min (x1 - x2) x3)] (.cons 1 (.v 0) (.v 1) (.cons 1 (.v 1) (.v 2) .nil)) (.v 0) (.v 2) rfl h1 (minA (lin [(x1 - x2), x3] (.cons 1 (.v 0) (.c 0) .nil) (.v 0) (.v 1) rfl (subZ u2))))) (fun u3 => (Or.elim (Nat.le_total (x1 - x2) x3) (fun u5 => (lin [x0, (x1 - x2), (min (x1 - x2) x3)] (.cons 1 (.v 0) (.v 1) (.cons 1 (.v 1) (.v 2) .nil)) (.v 0) (.v 2) rfl h1 (minA u5))) (fun u6 => (lin [x0, x3, (min (x1 - x2) x3)] (.cons 1 (.p (.v 0) (.c 1)) (.v 1) (.cons 1 (.v 1) (.v 2) .nil)) (.v 0) (.v 2) rfl h0 (minB u6))))))
theorem a107 {x0 x1 x2 : Nat}  (h0 : ((x0 ≤ x2) ∧ (x2 < (x0 + x1)))) : (x0 ≤ (((x0 + (x0 + x1)) - 1) - x2)) := (lin [x2, x0, x1, ((x0 + (x0 + x1)) - 1), (((x0 + (x0 + x1)) - 1) - x2)] (.cons 1 (.p (.v 0) (.c 1)) (.p (.v 1) (.v 2)) (.cons 1 (.v 3) (.p (.v 4) (.v 0)) (.cons 1 (.p (.v 1) (.p (.v 1) (.v 2))) (.p (.v 3) (.c 1)) .nil))) (.v 1) (.v 4) rfl (And.right h0) (subU ((x0 + (x0 + x1)) - 1) x2) (subU (x0 + (x0 + x1)) 1))
theorem a108 {x0 x1 : Nat}  (h0 : (¬ (x0 ≥ x1))) : (x0 ≤ ((x0 + x1) / 2)) := (Nat.le_of_not_lt fun u1 => (linF [x0, x1, ((x0 + x1) / 2)] (.cons 1 (.p (.v 0) (.c 1)) (.v 1) (.cons 1 (.p (.v 0) (.v 1)) (.p (.m 2 (.v 2)) (.c 1)) (.cons 2 (.p (.v 2) (.c 1)) (.v 0) .nil))) rfl (Nat.lt_of_not_le h0) (halfU (x0 + x1)) u1))
theorem a109 {x0 : Nat}  (h0 : (1 ≤ x0)) (h1 : (¬ ((x0 == 1) = true))) : (1 < x0) := (Or.elim (neqC (fun q => h1 (beq_iff_eq.mpr q))) (fun u2 => (lin [x0] (.cons 2 (.c 1) (.v 0) (.cons 1 (.p (.v 0) (.c 1)) (.c 1) .nil)) (.p (.c 1) (.c 1)) (.v 0) rfl h0 u2)) (fun u3 => (lin [x0] (.cons 1 (.p (.c 1) (.c 1)) (.v 0) .nil) (.p (.c 1) (.c 1)) (.v 0) rfl u3)))
theorem a110 {x0 x1 : Nat}  (h0 : (1 ≤ x0)) : (1 ≤ (x0 + x1)) := (lin [x0, x1] (.cons 1 (.c 1) (.v 0) .nil) (.c 1) (.p (.v 0) (.v 1)) rfl h0)
theorem a111 {x0 x1 x2 : Nat}  (h0 : ((x0 ≤ x2) ∧ (x2 < (x0 + x1)))) : ((((x0 + (x0 + x1)) - 1) - x2) < (x0 + (x1 + 1))) := (lin [x0, x2, (((x0 + (x0 + x1)) - 1) - x2), ((x0 + (x0 + x1)) - 1), x1] (.cons 1 (.v 0) (.v 1) (.cons 1 (.p (.v 2) (.v 1)) (.v 3) (.cons 1 (.p (.v 3) (.c 1)) (.p (.v 0) (.p (.v 0) (.v 4))) .nil))) (.p (.v 2) (.c 1)) (.p (.v 0) (.p (.v 4) (.c 1))) rfl (And.left h0) (subE (lin [x2, x0, x1, ((x0 + (x0 + x1)) - 1)] (.cons 1 (.p (.v 0) (.c 1)) (.p (.v 1) (.v 2)) (.cons 1 (.p (.v 1) (.p (.v 1) (.v 2))) (.p (.v 3) (.c 1)) .nil)) (.v 0) (.v 3) rfl (And.right h0) (subU (x0 + (x0 + x1)) 1))) (subE (lin [x2, x0, x1] (.cons 1 (.p (.v 0) (.c 1)) (.p (.v 1) (.v 2)) .nil) (.c 1) (.p (.v 1) (.p (.v 1) (.v 2))) rfl (And.right h0))))
theorem a112 {x0 x1 x2 x3 x4 : Nat}  (h0 : (¬ (((x0 + (x1 + 1)) ≤ x2) ∧ ((x2 < ((x0 + (x1 + 1)) + x3)) ∧ (x2 < x4))))) (h1 : (¬ ((x0 + x1) = x2))) : (¬ (((x0 + x1) ≤ x2) ∧ ((x2 < ((x0 + x1) + (x3 + 1))) ∧ (x2 < x4)))) := (fun u1 => (Or.elim (Decidable.not_and_iff_or_not.mp h0) (fun u2 => (Or.elim (neqC h1) (fun u4 => (linF [x2, x0, x1] (.cons 1 (.p (.v 0) (.c 1)) (.p (.v 1) (.p (.v 2) (.c 1))) (.cons 1 (.p (.p (.v 1) (.v 2)) (.c 1)) (.v 0) .nil)) rfl (Nat.lt_of_not_le u2) u4)) (fun u5 => (linF [x0, x1, x2] (.cons 1 (.p (.v 0) (.v 1)) (.v 2) (.cons 1 (.p (.v 2) (.c 1)) (.p (.v 0) (.v 1)) .nil)) rfl (And.left u1) u5)))) (fun u3 => (Or.elim (neqC h1) (fun u6 => (Or.elim (Decidable.not_and_iff_or_not.mp u3) (fun u8 => (linF [x2, x0, x1, x3] (.cons 1 (.p (.v 0) (.c 1)) (.p (.p (.v 1) (.v 2)) (.p (.v 3) (.c 1))) (.cons 1 (.p (.p (.v 1) (.p (.v 2) (.c 1))) (.v 3)) (.v 0) .nil)) rfl (And.left (And.right u1)) (Nat.le_of_not_lt u8))) (fun u9 => (linF [x2, x4] (.cons 1 (.p (.v 0) (.c 1)) (.v 1) (.cons 1 (.v 1) (.v 0) .nil)) rfl (And.right (And.right u1)) (Nat.le_of_not_lt u9))))) (fun u7 => (linF [x0, x1, x2] (.cons 1 (.p (.v 0) (.v 1)) (.v 2) (.cons 1 (.p (.v 2) (.c 1)) (.p (.v 0) (.v 1)) .nil)) rfl (And.left u1) u7))))))
theorem a113 {x0 x1 x2 x3 x4 : Nat}  (h0 : ((min (x3 - x4) x2) = x0)) (h1 : (1 ≤ x1)) (h2 : (x1 < x2)) (h3 : (x1 ≤ (x3 - x4))) : (1 ≤ x0) := (Or.elim (Nat.le_total (x3 - x4) x2) (fun u2 => (lin [(min (x3 - x4) x2), x0, x1, (x3 - x4)] (.cons 1 (.v 0) (.v 1) (.cons 1 (.c 1) (.v 2) (.cons 1 (.v 2) (.v 3) (.cons 1 (.v 3) (.v 0) .nil)))) (.c 1) (.v 1) rfl (Nat.le_of_eq h0) h1 h3 (minA u2))) (fun u3 => (lin [(min (x3 - x4) x2), x0, x1, x2] (.cons 1 (.v 0) (.v 1) (.cons 1 (.p (.v 2) (.c 1)) (.v 3) (.cons 1 (.v 3) (.v 0) .nil))) (.c 1) (.v 1) rfl (Nat.le_of_eq h0) h2 (minB u3))))
theorem a114 {x0 x1 : Nat}  (h0 : (x0 < x1)) (h1 : (¬ (((x0 + 1) == x1) = true))) : ((x0 + 1) < x1) := (Or.elim (neqC (fun q => h1 (beq_iff_eq.mpr q))) (fun u2 => (lin [x0, x1] (.cons 1 (.p (.p (.v 0) (.c 1)) (.c 1)) (.v 1) .nil) (.p (.p (.v 0) (.c 1)) (.c 1)) (.v 1) rfl u2)) (fun u3 => (lin [x0, x1] (.cons 2 (.p (.v 0) (.c 1)) (.v 1) (.cons 1 (.p (.v 1) (.c 1)) (.p (.v 0) (.c 1)) .nil)) (.p (.p (.v 0) (.c 1)) (.c 1)) (.v 1) rfl h0 u3)))
theorem a115 {x0 x1 x2 x3 : Nat}  (h0 : (((x1 + x2) + x3) ≤ x0)) : ((x0 < x1) ∨ (((x1 + x2) + x3) ≤ x0)) := (Or.inr (lin [x1, x2, x3, x0] (.cons 1 (.p (.p (.v 0) (.v 1)) (.v 2)) (.v 3) .nil) (.p (.p (.v 0) (.v 1)) (.v 2)) (.v 3) rfl h0))
theorem a116 {x0 x1 x2 : Nat}  (h0 : (x1 ≤ x2)) (h1 : (¬ (x0 ≥ x1))) : (((x0 + x1) / 2) ≤ x2) := (Nat.le_of_not_lt fun u1 => (linF [x1, x2, x0, ((x0 + x1) / 2)] (.cons 2 (.v 0) (.v 1) (.cons 1 (.p (.v 2) (.c 1)) (.v 0) (.cons 1 (.m 2 (.v 3)) (.p (.v 2) (.v 0)) (.cons 2 (.p (.v 1) (.c 1)) (.v 3) .nil)))) rfl h0 (Nat.lt_of_not_le h1) (halfL (x0 + x1)) u1))
theorem a117 {x0 : Nat}  (h0 : (1 ≤ x0)) : ((x0 - 1) ≤ x0) := (lin [(x0 - 1), x0] (.cons 1 (.p (.v 0) (.c 1)) (.v 1) .nil) (.v 0) (.v 1) rfl (subE (lin [x0] (.cons 1 (.c 1) (.v 0) .nil) (.c 1) (.v 0) rfl h0)))
theorem a118 {x0 x1 x2 x3 x4 : Nat}  (h0 : ((min (x2 - x0) x3) = x1)) (h1 : (1 ≤ x4)) (h2 : (x4 ≤ (x2 - x0))) : ((x0 + x1) ≤ x2) := (Or.elim (Nat.le_total (x2 - x0) x3) (fun u2 => (Or.elim (Nat.le_total x2 x0) (fun u5 => (False.elim (linF [x4, (x2 - x0)] (.cons 1 (.c 1) (.v 0) (.cons 1 (.v 0) (.v 1) (.cons 1 (.v 1) (.c 0) .nil))) rfl h1 h2 (subZ u5)))) (fun u6 => (lin [(min (x2 - x0) x3), (x2 - x0), x1, x0, x2] (.cons 1 (.v 0) (.v 1) (.cons 1 (.v 2) (.v 0) (.cons 1 (.p (.v 1) (.v 3)) (.v 4) .nil))) (.p (.v 3) (.v 2)) (.v 4) rfl (Nat.min_le_left (x2 - x0) x3) (Nat.le_of_eq (Eq.symm h0)) (subE u6))))) (fun u3 => (Or.elim (Nat.le_total x2 x0) (fun u8 => (False.elim (linF [x4, (x2 - x0)] (.cons 1 (.c 1) (.v 0) (.cons 1 (.v 0) (.v 1) (.cons 1 (.v 1) (.c 0) .nil))) rfl h1 h2 (subZ u8)))) (fun u9 => (lin [(min (x2 - x0) x3), (x2 - x0), x1, x0, x2] (.cons 1 (.v 0) (.v 1) (.cons 1 (.v 2) (.v 0) (.cons 1 (.p (.v 1) (.v 3)) (.v 4) .nil))) (.p (.v 3) (.v 2)) (.v 4) rfl (Nat.min_le_left (x2 - x0) x3) (Nat.le_of_eq (Eq.symm h0)) (subE u9))))))
theorem a119 {x0 x1 x2 : Nat}  (h0 : ((x2 + 1) < x1)) (h1 : (x0 = ((min x2 x1) + ((x1 - (x2 + 2)) + 1)))) : ((x0 + 1) = x1) := (Nat.le_antisymm (lin [(min x2 x1), x2, x0, (x1 - (x2 + 2)), x1] (.cons 1 (.v 0) (.v 1) (.cons 1 (.v 2) (.p (.v 0) (.p (.v 3) (.c 1))) (.cons 1 (.p (.v 3) (.p (.v 1) (.c 2))) (.v 4) .nil))) (.p (.v 2) (.c 1)) (.v 4) rfl (Nat.min_le_left x2 x1) (Nat.le_of_eq h1) (subE (lin [x2, x1] (.cons 1 (.p (.p (.v 0) (.c 1)) (.c 1)) (.v 1) .nil) (.p (.v 0) (.c 2)) (.v 1) rfl h0))) (lin [x1, (x1 - (x2 + 2)), x2, (min x2 x1), x0] (.cons 1 (.v 0) (.p (.v 1) (.p (.v 2) (.c 2))) (.cons 1 (.p (.v 3) (.p (.v 1) (.c 1))) (.v 4) (.cons 1 (.v 2) (.v 3) .nil))) (.v 0) (.p (.v 4) (.c 1)) rfl (subU x1 (x2 + 2)) (Nat.le_of_eq (Eq.symm h1)) (minA (lin [x2, x1] (.cons 1 (.p (.p (.v 0) (.c 1)) (.c 1)) (.v 1) .nil) (.v 0) (.v 1) rfl h0))))
theorem a120 {x0 x1 x2 : Nat}  (h0 : ((x1 ≤ x0) ∧ (x0 < (x1 + x2)))) : (x0 < (x1 + x2)) := (lin [x0, x1, x2] (.cons 1 (.p (.v 0) (.c 1)) (.p (.v 1) (.v 2)) .nil) (.p (.v 0) (.c 1)) (.p (.v 1) (.v 2)) rfl (And.right h0))
theorem a121 {x0 x1 x2 x3 x4 : Nat}  (h0 : (((x0 + x1) + x4) ≤ (x2 + x3))) : (((x0 + x1) + 1) ≤ (x2 + (x3 + 1))) := (lin [x0, x1, x4, x2, x3] (.cons 1 (.p (.p (.v 0) (.v 1)) (.v 2)) (.p (.v 3) (.v 4)) .nil) (.p (.p (.v 0) (.v 1)) (.c 1)) (.p (.v 3) (.p (.v 4) (.c 1))) rfl h0)
theorem a123 {x0 x1 x2 x3 : Nat}  (h0 : ((x1 - x0) ≤ (x2 - x3))) (h1 : (x3 < x2)) : ((((x0 + x1) / 2) - x0) ≤ (x2 - (x3 + 1))) := (Or.elim (Nat.le_total x1 x0) (fun u2 => (Or.elim (Nat.le_total ((x0 + x1) / 2) x0) (fun u5 => (lin [(((x0 + x1) / 2) - x0), (x2 - (x3 + 1))] (.cons 1 (.v 0) (.c 0) .nil) (.v 0) (.v 1) rfl (subZ u5))) (fun u6 => (lin [((x0 + x1) / 2), x0, x1, (((x0 + x1) / 2) - x0), (x2 - (x3 + 1))] (.cons 1 (.m 2 (.v 0)) (.p (.v 1) (.v 2)) (.cons 1 (.v 2) (.v 1) (.cons 2 (.p (.v 3) (.v 1)) (.v 0) .nil))) (.v 3) (.v 4) rfl (halfL (x0 + x1)) u2 (subE u6))))) (fun u3 => (Or.elim (Nat.le_total ((x0 + x1) / 2) x0) (fun u8 => (lin [(((x0 + x1) / 2) - x0), (x2 - (x3 + 1))] (.cons 1 (.v 0) (.c 0) .nil) (.v 0) (.v 1) rfl (subZ u8))) (fun u9 => (Nat.le_of_not_lt fun u10 => (linF [x1, (x1 - x0), x0, (x2 - x3), ((x0 + x1) / 2), x2, (x2 - (x3 + 1)), x3, (((x0 + x1) / 2) - x0)] (.cons 1 (.v 0) (.p (.v 1) (.v 2)) (.cons 1 (.v 1) (.v 3) (.cons 1 (.m 2 (.v 4)) (.p (.v 2) (.v 0)) (.cons 1 (.v 5) (.p (.v 6) (.p (.v 7) (.c 1))) (.cons 1 (.p (.v 3) (.v 7)) (.v 5) (.cons 2 (.p (.v 8) (.v 2)) (.v 4) (.cons 2 (.p (.v 6) (.c 1)) (.v 8) .nil))))))) rfl (subU x1 x0) h0 (halfL (x0 + x1)) (subU x2 (x3 + 1)) (subE (lin [x3, x2] (.cons 1 (.p (.v 0) (.c 1)) (.v 1) .nil) (.v 0) (.v 1) rfl h1)) (subE u9) u10))))))
theorem a124 {x0 x1 x2 : Nat}  (h0 : (1 ≤ x2)) (h1 : (x0 ≤ x1)) : ((x0 + 1) ≤ (x1 + x2)) := (lin [x2, x0, x1] (.cons 1 (.c 1) (.v 0) (.cons 1 (.v 1) (.v 2) .nil)) (.p (.v 1) (.c 1)) (.p (.v 2) (.v 0)) rfl h0 h1)
theorem a125 {x0 x1 : Nat}  (h0 : (1 ≤ x0)) : ((((0 + 1) + (x0 - 1)) + x1) ≤ (x0 + x1)) := (lin [(x0 - 1), x0, x1] (.cons 1 (.p (.v 0) (.c 1)) (.v 1) .nil) (.p (.p (.p (.c 0) (.c 1)) (.v 0)) (.v 2)) (.p (.v 1) (.v 2)) rfl (subE (lin [x0] (.cons 1 (.c 1) (.v 0) .nil) (.c 1) (.v 0) rfl h0)))
theorem a126 {x0 x1 x2 : Nat}  (h0 : ((x0 ≤ x2) ∧ (x2 < (x0 + x1)))) : ((((x0 + (x0 + x1)) - 1) - x2) < (x0 + x1)) := (lin [x0, x2, (((x0 + (x0 + x1)) - 1) - x2), ((x0 + (x0 + x1)) - 1), x1] (.cons 1 (.v 0) (.v 1) (.cons 1 (.p (.v 2) (.v 1)) (.v 3) (.cons 1 (.p (.v 3) (.c 1)) (.p (.v 0) (.p (.v 0) (.v 4))) .nil))) (.p (.v 2) (.c 1)) (.p (.v 0) (.v 4)) rfl (And.left h0) (subE (lin [x2, x0, x1, ((x0 + (x0 + x1)) - 1)] (.cons 1 (.p (.v 0) (.c 1)) (.p (.v 1) (.v 2)) (.cons 1 (.p (.v 1) (.p (.v 1) (.v 2))) (.p (.v 3) (.c 1)) .nil)) (.v 0) (.v 3) rfl (And.right h0) (subU (x0 + (x0 + x1)) 1))) (subE (lin [x2, x0, x1] (.cons 1 (.p (.v 0) (.c 1)) (.p (.v 1) (.v 2)) .nil) (.c 1) (.p (.v 1) (.p (.v 1) (.v 2))) rfl (And.right h0))))
theorem a127 {x0 x1 x2 x3 : Nat}  (h0 : (((((max 0 (x0 + x1)) + 1) + x2) + x3) ≤ (x0 + x1))) : False := (linF [x0, x1, (max 0 (x0 + x1)), x2, x3] (.cons 1 (.p (.v 0) (.v 1)) (.v 2) (.cons 1 (.p (.p (.p (.v 2) (.c 1)) (.v 3)) (.v 4)) (.p (.v 0) (.v 1)) .nil)) rfl (Nat.le_max_right 0 (x0 + x1)) h0)
theorem a128 {x0 x1 x2 : Nat}   : (x0 ≤ (x0 + ((x1 + x2) / 2))) := (lin [x0, ((x1 + x2) / 2)] .nil (.v 0) (.p (.v 0) (.v 1)) rfl )
theorem a129 {x0 x1 x2 x3 x4 : Nat}  (h0 : (((x0 + x1) + x2) ≤ (x3 + x4))) : (((x0 + x1) + (x2 + 1)) ≤ (x3 + (x4 + 1))) := (lin [x0, x1, x2, x3, x4] (.cons 1 (.p (.p (.v 0) (.v 1)) (.v 2)) (.p (.v 3) (.v 4)) .nil) (.p (.p (.v 0) (.v 1)) (.p (.v 2) (.c 1))) (.p (.v 3) (.p (.v 4) (.c 1))) rfl h0)
theorem a130 {x0 : Nat}  (h0 : (x0 > 1)) : ((x0 - 2) < x0) := (lin [(x0 - 2), x0] (.cons 1 (.p (.v 0) (.c 2)) (.v 1) .nil) (.p (.v 0) (.c 1)) (.v 1) rfl (subE (lin [x0] (.cons 1 (.p (.c 1) (.c 1)) (.v 0) .nil) (.c 2) (.v 0) rfl h0)))
theorem a131 {x0 x1 x2 x3 : Nat}  (h0 : (((x1 + x2) / 2) ≤ x3)) : ((x0 + ((x1 + x2) / 2)) ≤ (x0 + x3)) := (lin [((x1 + x2) / 2), x3, x0] (.cons 1 (.v 0) (.v 1) .nil) (.p (.v 2) (.v 0)) (.p (.v 2) (.v 1)) rfl h0)
theorem a132 {x0 x1 : Int} (h0 : (x1 < x0)) : (¬ (x0 < (x1 + (1 : Int)))) := (Int.not_lt.mpr (Int.add_one_le_of_lt h0))
theorem a133 {x0 x1 x2 : Int} (h0 : (x0 ≤ x2)) (h1 : (x1 ≤ x2)) (h2 : (x2 ≤ x0)) (h3 : (x2 ≤ x1)) : (x0 = x1) := (Int.le_antisymm (Int.le_trans h0 h3) (Int.le_trans h1 h2))
theorem a134 {x0 x1 x2 : Nat}  (h0 : (x1 ≤ x2)) : ((x0 + x1) ≤ (x0 + x2)) := (lin [x1, x2, x0] (.cons 1 (.v 0) (.v 1) .nil) (.p (.v 2) (.v 0)) (.p (.v 2) (.v 1)) rfl h0)
theorem a135 {x0 x1 x2 : Nat}  (h0 : (x1 < x2)) : ((x0 + x1) < (x0 + x2)) := (lin [x1, x2, x0] (.cons 1 (.p (.v 0) (.c 1)) (.v 1) .nil) (.p (.p (.v 2) (.v 0)) (.c 1)) (.p (.v 2) (.v 1)) rfl h0)
theorem a136 {x0 x1 : Int} (h0 : (¬ (x1 < x0))) : (x0 < (x1 + (1 : Int))) := (Int.lt_add_one_of_le (Int.not_lt.mp h0))
theorem a137 {x0 x1 x2 x3 x4 x5 x6 : Nat}  (h0 : ((((x0 + 1) + x1) + x2) ≤ (x3 + x4))) (h1 : (((x5 + x6) + (max 0 (x3 + x4))) ≤ (x1 + x2))) : False := (linF [x0, x1, x2, x3, x4, (max 0 (x3 + x4)), x5, x6] (.cons 1 (.p (.p (.p (.v 0) (.c 1)) (.v 1)) (.v 2)) (.p (.v 3) (.v 4)) (.cons 1 (.p (.v 3) (.v 4)) (.v 5) (.cons 1 (.p (.p (.v 6) (.v 7)) (.v 5)) (.p (.v 1) (.v 2)) .nil))) rfl h0 (Nat.le_max_right 0 (x3 + x4)) h1)
theorem a138 {x0 x1 : Nat}  (h0 : (¬ (x0 ≥ x1))) : ((((x0 + x1) / 2) + 1) ≤ x1) := (Nat.le_of_not_lt fun u1 => (linF [x0, x1, ((x0 + x1) / 2)] (.cons 1 (.p (.v 0) (.c 1)) (.v 1) (.cons 1 (.m 2 (.v 2)) (.p (.v 0) (.v 1)) (.cons 2 (.p (.v 1) (.c 1)) (.p (.v 2) (.c 1)) .nil))) rfl (Nat.lt_of_not_le h0) (halfL (x0 + x1)) u1))
theorem a139 {x0 x1 x2 : Int} (h0 : (x2 ≤ x1)) (h1 : (¬ (x2 < x0))) : (x0 ≤ x1) := (Int.le_trans (Int.not_lt.mp h1) h0)
theorem a140 {x0 x1 : Nat}  (h0 : (¬ (x0 ≥ x1))) : (x0 ≤ x1) := (lin [x0, x1] (.cons 1 (.p (.v 0) (.c 1)) (.v 1) .nil) (.v 0) (.v 1) rfl (Nat.lt_of_not_le h0))
theorem a141 {x0 x1 : Nat}  (h0 : (1 < x0)) (h1 : (x0 ≤ x1)) : ((x0 - 1) < x1) := (lin [x0, x1, (x0 - 1)] (.cons 1 (.v 0) (.v 1) (.cons 1 (.p (.v 2) (.c 1)) (.v 0) .nil)) (.p (.v 2) (.c 1)) (.v 1) rfl h1 (subE (lin [x0] (.cons 1 (.p (.c 1) (.c 1)) (.v 0) .nil) (.c 1) (.v 0) rfl h0)))
theorem a142 {x0 x1 x2 x3 : Nat}  (h0 : (x0 < (min (x1 - x2) (x3 - x2)))) : (x0 < (x1 - x2)) := (lin [(min (x1 - x2) (x3 - x2)), (x1 - x2), x0] (.cons 1 (.v 0) (.v 1) (.cons 1 (.p (.v 2) (.c 1)) (.v 0) .nil)) (.p (.v 2) (.c 1)) (.v 1) rfl (Nat.min_le_left (x1 - x2) (x3 - x2)) h0)
theorem a144 {x0 x1 : Nat}   : ((x0 + x1) ≤ (x0 + (x1 + 1))) := (lin [x0, x1] .nil (.p (.v 0) (.v 1)) (.p (.v 0) (.p (.v 1) (.c 1))) rfl )
theorem a145 {x0 x1 : Nat}  (h0 : ((x0 + 1) < x1)) (h1 : (¬ ((((x0 + 1) + 1) == x1) = true))) : (((x0 + 1) + 1) < x1) := (Or.elim (neqC (fun q => h1 (beq_iff_eq.mpr q))) (fun u2 => (lin [x0, x1] (.cons 1 (.p (.p (.p (.v 0) (.c 1)) (.c 1)) (.c 1)) (.v 1) .nil) (.p (.p (.p (.v 0) (.c 1)) (.c 1)) (.c 1)) (.v 1) rfl u2)) (fun u3 => (lin [x0, x1] (.cons 2 (.p (.p (.v 0) (.c 1)) (.c 1)) (.v 1) (.cons 1 (.p (.v 1) (.c 1)) (.p (.p (.v 0) (.c 1)) (.c 1)) .nil)) (.p (.p (.p (.v 0) (.c 1)) (.c 1)) (.c 1)) (.v 1) rfl h0 u3)))
theorem a146 {x0 x1 : Nat}  (h0 : (0 < x0)) (h1 : (x0 ≤ x1)) : ((x0 - 1) < x1) := (lin [x0, x1, (x0 - 1)] (.cons 1 (.v 0) (.v 1) (.cons 1 (.p (.v 2) (.c 1)) (.v 0) .nil)) (.p (.v 2) (.c 1)) (.v 1) rfl h1 (subE (lin [x0] (.cons 1 (.p (.c 0) (.c 1)) (.v 0) .nil) (.c 1) (.v 0) rfl h0)))
theorem a147 {x0 : Nat}  (h0 : (x0 > 1)) : (((x0 - 2) + 1) < x0) := (lin [(x0 - 2), x0] (.cons 1 (.p (.v 0) (.c 2)) (.v 1) .nil) (.p (.p (.v 0) (.c 1)) (.c 1)) (.v 1) rfl (subE (lin [x0] (.cons 1 (.p (.c 1) (.c 1)) (.v 0) .nil) (.c 2) (.v 0) rfl h0)))
theorem a148 {x0 x1 x2 x3 : Nat}  (h0 : ((x0 - x1) ≤ (x2 - x3))) (h1 : (x1 ≤ x0)) (h2 : (x3 < x2)) : ((x0 - (((x1 + x0) / 2) + 1)) ≤ (x2 - (x3 + 1))) := (Or.elim (Nat.le_total x0 (((x1 + x0) / 2) + 1)) (fun u2 => (lin [(x0 - (((x1 + x0) / 2) + 1)), (x2 - (x3 + 1))] (.cons 1 (.v 0) (.c 0) .nil) (.v 0) (.v 1) rfl (subZ u2))) (fun u3 => (Nat.le_of_not_lt fun u4 => (linF [x0, (x0 - x1), x1, (x2 - x3), ((x1 + x0) / 2), x2, (x2 - (x3 + 1)), x3, (x0 - (((x1 + x0) / 2) + 1))] (.cons 1 (.v 0) (.p (.v 1) (.v 2)) (.cons 1 (.v 1) (.v 3) (.cons 1 (.p (.v 2) (.v 0)) (.p (.m 2 (.v 4)) (.c 1)) (.cons 1 (.v 5) (.p (.v 6) (.p (.v 7) (.c 1))) (.cons 1 (.p (.v 3) (.v 7)) (.v 5) (.cons 1 (.p (.v 4) (.c 1)) (.v 0) (.cons 1 (.p (.v 8) (.p (.v 4) (.c 1))) (.v 0) (.cons 1 (.p (.v 6) (.c 1)) (.v 8) .nil)))))))) rfl (subU x0 x1) h0 (halfU (x1 + x0)) (subU x2 (x3 + 1)) (subE (lin [x3, x2] (.cons 1 (.p (.v 0) (.c 1)) (.v 1) .nil) (.v 0) (.v 1) rfl h2)) u3 (subE u3) u4))))
theorem a149 {x0 x1 x2 x3 : Nat}  (h0 : ((x0 + x2) ≤ x3)) (h1 : (1 ≤ x2)) (h2 : (x1 = x3)) : (x0 < x1) := (lin [x0, x2, x3, x1] (.cons 1 (.p (.v 0) (.v 1)) (.v 2) (.cons 1 (.c 1) (.v 1) (.cons 1 (.v 2) (.v 3) .nil))) (.p (.v 0) (.c 1)) (.v 3) rfl h0 h1 (Nat.le_of_eq (Eq.symm h2)))
theorem a151 {x0 x1 x2 x3 : Nat}  (h0 : (x1 < (x3 - x0))) (h1 : (x3 ≤ x2)) : ((x0 + x1) < x2) := (Or.elim (Nat.le_total x3 x0) (fun u2 => (False.elim (linF [x1, (x3 - x0)] (.cons 1 (.p (.v 0) (.c 1)) (.v 1) (.cons 1 (.v 1) (.c 0) .nil)) rfl h0 (subZ u2)))) (fun u3 => (lin [x1, (x3 - x0), x3, x2, x0] (.cons 1 (.p (.v 0) (.c 1)) (.v 1) (.cons 1 (.v 2) (.v 3) (.cons 1 (.p (.v 1) (.v 4)) (.v 2) .nil))) (.p (.p (.v 4) (.v 0)) (.c 1)) (.v 3) rfl h0 h1 (subE u3))))
theorem a152 {x0 x1 x2 : Nat}  (h0 : (((x1 + (x2 + 1)) - (0 + 1)) ≤ x0)) (h1 : (x0 < (x1 + (x2 + 1)))) : (x0 = ((x1 + (x2 + 1)) - 1)) := (Nat.le_antisymm (lin [x0, x1, x2, ((x1 + (x2 + 1)) - 1)] (.cons 1 (.p (.v 0) (.c 1)) (.p (.v 1) (.p (.v 2) (.c 1))) (.cons 1 (.p (.v 1) (.p (.v 2) (.c 1))) (.p (.v 3) (.c 1)) .nil)) (.v 0) (.v 3) rfl h1 (subU (x1 + (x2 + 1)) 1)) (lin [x1, x2, ((x1 + (x2 + 1)) - (0 + 1)), x0, ((x1 + (x2 + 1)) - 1)] (.cons 1 (.p (.v 0) (.p (.v 1) (.c 1))) (.p (.v 2) (.p (.c 0) (.c 1))) (.cons 1 (.v 2) (.v 3) (.cons 1 (.p (.v 4) (.c 1)) (.p (.v 0) (.p (.v 1) (.c 1))) .nil))) (.v 4) (.v 3) rfl (subU (x1 + (x2 + 1)) (0 + 1)) h0 (subE (lin [x1, x2] .nil (.c 1) (.p (.v 0) (.p (.v 1) (.c 1))) rfl ))))
theorem a153 {x0 x1 x2 x3 : Nat}  (h0 : (x1 < (((x2 + x3) / 2) + 1))) : ((x0 + x1) ≤ (x0 + ((x2 + x3) / 2))) := (lin [x1, ((x2 + x3) / 2), x0] (.cons 1 (.p (.v 0) (.c 1)) (.p (.v 1) (.c 1)) .nil) (.p (.v 2) (.v 0)) (.p (.v 2) (.v 1)) rfl h0)
theorem a154 {x0 x1 x2 x3 x4 x5 : Nat}  (h0 : ((x3 + x5) ≤ x4)) (h1 : (x2 = x4)) (h2 : (x3 = (x0 + x1))) : ((x0 + x1) ≤ x2) := (lin [x3, x5, x4, x2, x0, x1] (.cons 1 (.p (.v 0) (.v 1)) (.v 2) (.cons 1 (.v 2) (.v 3) (.cons 1 (.p (.v 4) (.v 5)) (.v 0) .nil))) (.p (.v 4) (.v 5)) (.v 3) rfl h0 (Nat.le_of_eq (Eq.symm h1)) (Nat.le_of_eq (Eq.symm h2)))
theorem a155 {x0 x1 x2 x3 : Nat}  (h0 : (x2 ≤ x3)) (h1 : (¬ (x1 ≥ x2))) : ((x0 + ((x1 + x2) / 2)) < (x0 + x3)) := (Nat.le_of_not_lt fun u1 => (linF [x2, x3, x1, ((x1 + x2) / 2), x0] (.cons 2 (.v 0) (.v 1) (.cons 1 (.p (.v 2) (.c 1)) (.v 0) (.cons 1 (.m 2 (.v 3)) (.p (.v 2) (.v 0)) (.cons 2 (.p (.p (.v 4) (.v 1)) (.c 1)) (.p (.p (.v 4) (.v 3)) (.c 1)) .nil)))) rfl h0 (Nat.lt_of_not_le h1) (halfL (x1 + x2)) u1))
theorem a156 {x0 x1 : Nat}  (h0 : (x0 < x1)) : (x0 ≤ (x1 - 1)) := (lin [x0, x1, (x1 - 1)] (.cons 1 (.p (.v 0) (.c 1)) (.v 1) (.cons 1 (.v 1) (.p (.v 2) (.c 1)) .nil)) (.v 0) (.v 2) rfl h0 (subU x1 1))
theorem a157 {x0 x1 x2 x3 x4 : Nat}  (h0 : (((x0 + x1) + x4) ≤ (x2 + x3))) : (((x0 + x1) + 1) ≤ ((x2 + 1) + x3)) := (lin [x0, x1, x4, x2, x3] (.cons 1 (.p (.p (.v 0) (.v 1)) (.v 2)) (.p (.v 3) (.v 4)) .nil) (.p (.p (.v 0) (.v 1)) (.c 1)) (.p (.p (.v 3) (.c 1)) (.v 4)) rfl h0)
theorem a158 {x0 : Nat}   : ((0 + 1) ≤ (x0 + 1)) := (lin [x0] .nil (.p (.c 0) (.c 1)) (.p (.v 0) (.c 1)) rfl )
theorem a159 {x0 x1 x2 : Int} (h0 : (x0 ≤ x2)) (h1 : (x2 < x1)) : (x0 ≤ x1) := (Int.le_of_lt (Int.lt_of_le_of_lt h0 h1))
theorem a160 {x0 x1 x2 x3 x4 : Nat}  (h0 : ((x0 + x3) ≤ x4)) (h1 : (x1 < x3)) (h2 : (x2 = x4)) : ((x0 + x1) < x2) := (lin [x0, x3, x4, x1, x2] (.cons 1 (.p (.v 0) (.v 1)) (.v 2) (.cons 1 (.p (.v 3) (.c 1)) (.v 1) (.cons 1 (.v 2) (.v 4) .nil))) (.p (.p (.v 0) (.v 3)) (.c 1)) (.v 4) rfl h0 h1 (Nat.le_of_eq (Eq.symm h2)))
theorem a161 {x0 x1 x2 x3 x4 : Nat}  (h0 : (((x3 - x2) == 0) = true)) (h1 : (1 ≤ x3)) (h2 : (x0 < x4)) (h3 : (x4 = (x1 + x3))) : ((x0 - x1) < x2) := (Or.elim (Nat.le_total x0 x1) (fun u2 => (lin [x3, (x3 - x2), x2, (x0 - x1)] (.cons 1 (.v 0) (.p (.v 1) (.v 2)) (.cons 1 (.c 1) (.v 0) (.cons 1 (.v 1) (.c 0) (.cons 1 (.v 3) (.c 0) .nil)))) (.p (.v 3) (.c 1)) (.v 2) rfl (subU x3 x2) h1 (subZ (lin [x3, (x3 - x2), x2] (.cons 1 (.v 0) (.p (.v 1) (.v 2)) (.cons 1 (.v 1) (.c 0) .nil)) (.v 0) (.v 2) rfl (subU x3 x2) (Nat.le_of_eq (eq_of_beq h0)))) (subZ u2))) (fun u3 => (lin [x3, (x3 - x2), x2, x0, x4, x1, (x0 - x1)] (.cons 1 (.v 0) (.p (.v 1) (.v 2)) (.cons 1 (.p (.v 3) (.c 1)) (.v 4) (.cons 1 (.v 4) (.p (.v 5) (.v 0)) (.cons 1 (.v 1) (.c 0) (.cons 1 (.p (.v 6) (.v 5)) (.v 3) .nil))))) (.p (.v 6) (.c 1)) (.v 2) rfl (subU x3 x2) h2 (Nat.le_of_eq h3) (subZ (lin [x3, (x3 - x2), x2] (.cons 1 (.v 0) (.p (.v 1) (.v 2)) (.cons 1 (.v 1) (.c 0) .nil)) (.v 0) (.v 2) rfl (subU x3 x2) (Nat.le_of_eq (eq_of_beq h0)))) (subE u3))))
theorem a162 {x0 x1 x2 : Nat}  (h0 : (x1 < x2)) : ((x0 + x1) ≤ (x0 + x2)) := (lin [x1, x2, x0] (.cons 1 (.p (.v 0) (.c 1)) (.v 1) .nil) (.p (.v 2) (.v 0)) (.p (.v 2) (.v 1)) rfl h0)
theorem a163   : (0 < 1) := (lin [] .nil (.p (.c 0) (.c 1)) (.c 1) rfl )
theorem a164 {x0 x1 x2 x3 x4 : Nat}  (h0 : (((x0 + x1) + x2) ≤ (x3 + x4))) : (((x0 + x1) + (x2 + 1)) ≤ ((x3 + 1) + x4)) := (lin [x0, x1, x2, x3, x4] (.cons 1 (.p (.p (.v 0) (.v 1)) (.v 2)) (.p (.v 3) (.v 4)) .nil) (.p (.p (.v 0) (.v 1)) (.p (.v 2) (.c 1))) (.p (.p (.v 3) (.c 1)) (.v 4)) rfl h0)
theorem a165 {x0 x1 x2 : Nat}  (h0 : (x1 < (x2 - x0))) : ((x0 + x1) < x2) := (Or.elim (Nat.le_total x2 x0) (fun u2 => (False.elim (linF [x1, (x2 - x0)] (.cons 1 (.p (.v 0) (.c 1)) (.v 1) (.cons 1 (.v 1) (.c 0) .nil)) rfl h0 (subZ u2)))) (fun u3 => (lin [x1, (x2 - x0), x0, x2] (.cons 1 (.p (.v 0) (.c 1)) (.v 1) (.cons 1 (.p (.v 1) (.v 2)) (.v 3) .nil)) (.p (.p (.v 2) (.v 0)) (.c 1)) (.v 3) rfl h0 (subE u3))))
theorem a166 {x0 x1 x2 : Nat}   : (((x0 + x1) - (x0 + x2)) ≤ (x0 + x1)) := (lin [((x0 + x1) - (x0 + x2)), x0, x1] (.cons 1 (.v 0) (.p (.v 1) (.v 2)) .nil) (.v 0) (.p (.v 1) (.v 2)) rfl (Nat.sub_le (x0 + x1) (x0 + x2)))
theorem a167   : ((0 + 1) ≤ 1) := (lin [] .nil (.p (.c 0) (.c 1)) (.c 1) rfl )
theorem a168 {x0 x1 x2 : Nat}  (h0 : (1 ≤ x1)) (h1 : (x1 ≤ (x2 - x0))) : ((x0 + x1) ≤ x2) := (Or.elim (Nat.le_total x2 x0) (fun u2 => (False.elim (linF [x1, (x2 - x0)] (.cons 1 (.c 1) (.v 0) (.cons 1 (.v 0) (.v 1) (.cons 1 (.v 1) (.c 0) .nil))) rfl h0 h1 (subZ u2)))) (fun u3 => (lin [x1, (x2 - x0), x0, x2] (.cons 1 (.v 0) (.v 1) (.cons 1 (.p (.v 1) (.v 2)) (.v 3) .nil)) (.p (.v 2) (.v 0)) (.v 3) rfl h1 (subE u3))))
theorem a170 {x0 x1 x2 x3 x4 : Nat}  (h0 : ((x0 < x1) ∨ ((x1 + x4) ≤ x0))) (h1 : (x2 < x4)) (h2 : (x3 ≤ x2)) : (¬ (x0 = ((x1 + x2) - ((x1 + x2) - (x1 + x3))))) := (fun u1 => (Or.elim h0 (fun u2 => (linF [x1, x2, ((x1 + x2) - ((x1 + x2) - (x1 + x3))), ((x1 + x2) - (x1 + x3)), x0, x3] (.cons 1 (.p (.v 0) (.v 1)) (.p (.v 2) (.v 3)) (.cons 1 (.v 2) (.v 4) (.cons 1 (.p (.v 3) (.p (.v 0) (.v 5))) (.p (.v 0) (.v 1)) (.cons 1 (.p (.v 4) (.c 1)) (.v 0) .nil)))) rfl (subU (x1 + x2) ((x1 + x2) - (x1 + x3))) (Nat.le_of_eq (Eq.symm u1)) (subE (lin [x3, x2, x1] (.cons 1 (.v 0) (.v 1) .nil) (.p (.v 2) (.v 0)) (.p (.v 2) (.v 1)) rfl h2)) u2)) (fun u3 => (linF [x2, x4, ((x1 + x2) - ((x1 + x2) - (x1 + x3))), x1, x0] (.cons 1 (.p (.v 0) (.c 1)) (.v 1) (.cons 1 (.v 2) (.p (.v 3) (.v 0)) (.cons 1 (.v 4) (.v 2) (.cons 1 (.p (.v 3) (.v 1)) (.v 4) .nil)))) rfl h1 (Nat.sub_le (x1 + x2) ((x1 + x2) - (x1 + x3))) (Nat.le_of_eq u1) u3))))
theorem a171 {x0 x1 : Nat}  (h0 : (0 < x0)) (h1 : (x0 ≤ x1)) : ((x0 - 1) ≤ x1) := (lin [x0, x1, (x0 - 1)] (.cons 1 (.v 0) (.v 1) (.cons 1 (.p (.v 2) (.c 1)) (.v 0) .nil)) (.v 2) (.v 1) rfl h1 (subE (lin [x0] (.cons 1 (.p (.c 0) (.c 1)) (.v 0) .nil) (.c 1) (.v 0) rfl h0)))
theorem a172 {x0 x1 x2 x3 x4 : Nat}  (h0 : ((x3 < x0) ∨ ((x0 + x4) ≤ x3))) (h1 : (x1 < x4)) (h2 : (x2 ≤ x1)) : (¬ ((((x0 + x1) - ((x0 + x1) - (x0 + x2))) < x3) ∧ (x3 ≤ (x0 + x1)))) := (fun u1 => (Or.elim h0 (fun u2 => (linF [x0, x1, ((x0 + x1) - ((x0 + x1) - (x0 + x2))), ((x0 + x1) - (x0 + x2)), x3, x2] (.cons 1 (.p (.v 0) (.v 1)) (.p (.v 2) (.v 3)) (.cons 1 (.p (.v 2) (.c 1)) (.v 4) (.cons 1 (.p (.v 3) (.p (.v 0) (.v 5))) (.p (.v 0) (.v 1)) (.cons 1 (.p (.v 4) (.c 1)) (.v 0) .nil)))) rfl (subU (x0 + x1) ((x0 + x1) - (x0 + x2))) (And.left u1) (subE (lin [x2, x1, x0] (.cons 1 (.v 0) (.v 1) .nil) (.p (.v 2) (.v 0)) (.p (.v 2) (.v 1)) rfl h2)) u2)) (fun u3 => (linF [x1, x4, x3, x0] (.cons 1 (.p (.v 0) (.c 1)) (.v 1) (.cons 1 (.v 2) (.p (.v 3) (.v 0)) (.cons 1 (.p (.v 3) (.v 1)) (.v 2) .nil))) rfl h1 (And.right u1) u3))))
theorem a173 {x0 x1 x2 x3 x4 : Nat}  (h0 : ((x0 + x4) ≤ x2)) (h1 : ((x3 + 1) ≤ x1)) (h2 : (x1 < x4)) : (((x0 + x1) - 1) < x2) := (lin [x0, x4, x2, x1, ((x0 + x1) - 1)] (.cons 1 (.p (.v 0) (.v 1)) (.v 2) (.cons 1 (.p (.v 3) (.c 1)) (.v 1) (.cons 1 (.p (.v 4) (.c 1)) (.p (.v 0) (.v 3)) .nil))) (.p (.v 4) (.c 1)) (.v 2) rfl h0 h2 (subE (lin [x3, x1, x0] (.cons 1 (.p (.v 0) (.c 1)) (.v 1) .nil) (.c 1) (.p (.v 2) (.v 1)) rfl h1)))
theorem a174 {x0 x1 : Nat}  (h0 : (x0 < x1)) : ((min (x0 + 1) x1) = (x0 + 1)) := (Nat.le_antisymm (lin [(min (x0 + 1) x1), x0] (.cons 1 (.v 0) (.p (.v 1) (.c 1)) .nil) (.v 0) (.p (.v 1) (.c 1)) rfl (Nat.min_le_left (x0 + 1) x1)) (lin [x0, (min (x0 + 1) x1)] (.cons 1 (.p (.v 0) (.c 1)) (.v 1) .nil) (.p (.v 0) (.c 1)) (.v 1) rfl (minA (lin [x0, x1] (.cons 1 (.p (.v 0) (.c 1)) (.v 1) .nil) (.p (.v 0) (.c 1)) (.v 1) rfl h0))))
theorem a175 {x0 x1 : Nat}  (h0 : (x1 < x0)) : (0 < (x0 - x1)) := (lin [x1, x0, (x0 - x1)] (.cons 1 (.p (.v 0) (.c 1)) (.v 1) (.cons 1 (.v 1) (.p (.v 2) (.v 0)) .nil)) (.p (.c 0) (.c 1)) (.v 2) rfl h0 (subU x0 x1))
theorem a176 {x0 x1 x2 x3 x4 x5 : Nat}  (h0 : (((x4 + x5) + (max 0 (x1 + x3))) ≤ (x0 + x2))) (h1 : ((x0 + 1) < x1)) (h2 : (x2 < x3)) : False := (linF [x1, x3, (max 0 (x1 + x3)), x4, x5, x0, x2] (.cons 1 (.p (.v 0) (.v 1)) (.v 2) (.cons 1 (.p (.p (.v 3) (.v 4)) (.v 2)) (.p (.v 5) (.v 6)) (.cons 1 (.p (.p (.v 5) (.c 1)) (.c 1)) (.v 0) (.cons 1 (.p (.v 6) (.c 1)) (.v 1) .nil)))) rfl (Nat.le_max_right 0 (x1 + x3)) h0 h1 h2)
theorem a177 {x0 x1 x2 x3 : Int} (h0 : (x0 < (x3 + (1 : Int)))) (h1 : (x2 = x3)) (h2 : (x2 ≤ x1)) : (x0 ≤ x1) := (Int.le_trans (Int.le_trans (Int.le_of_lt_add_one h0) (Int.le_of_eq (Eq.symm h1))) h2)
theorem a178 {x0 x1 x2 x3 x4 : Nat}  (h0 : (((x0 + x1) + x4) ≤ (x2 + x3))) (h1 : (0 < x0)) : ((((x0 - 1) + x1) + 1) ≤ (x2 + x3)) := (lin [x0, x1, x4, x2, x3, (x0 - 1)] (.cons 1 (.p (.p (.v 0) (.v 1)) (.v 2)) (.p (.v 3) (.v 4)) (.cons 1 (.p (.v 5) (.c 1)) (.v 0) .nil)) (.p (.p (.v 5) (.v 1)) (.c 1)) (.p (.v 3) (.v 4)) rfl h0 (subE (lin [x0] (.cons 1 (.p (.c 0) (.c 1)) (.v 0) .nil) (.c 1) (.v 0) rfl h1)))
theorem a179 {x0 x1 x2 : Nat}  (h0 : (x2 ≤ x1)) : (((x0 + x1) - ((x0 + x1) - (x0 + x2))) = (x0 + x2)) := (Nat.le_antisymm (lin [x0, x1, ((x0 + x1) - (x0 + x2)), x2, ((x0 + x1) - ((x0 + x1) - (x0 + x2)))] (.cons 1 (.p (.v 0) (.v 1)) (.p (.v 2) (.p (.v 0) (.v 3))) (.cons 1 (.p (.v 4) (.v 2)) (.p (.v 0) (.v 1)) .nil)) (.v 4) (.p (.v 0) (.v 3)) rfl (subU (x0 + x1) (x0 + x2)) (subE (lin [((x0 + x1) - (x0 + x2)), x0, x1] (.cons 1 (.v 0) (.p (.v 1) (.v 2)) .nil) (.v 0) (.p (.v 1) (.v 2)) rfl (Nat.sub_le (x0 + x1) (x0 + x2))))) (lin [x0, x1, ((x0 + x1) - ((x0 + x1) - (x0 + x2))), ((x0 + x1) - (x0 + x2)), x2] (.cons 1 (.p (.v 0) (.v 1)) (.p (.v 2) (.v 3)) (.cons 1 (.p (.v 3) (.p (.v 0) (.v 4))) (.p (.v 0) (.v 1)) .nil)) (.p (.v 0) (.v 4)) (.v 2) rfl (subU (x0 + x1) ((x0 + x1) - (x0 + x2))) (subE (lin [x2, x1, x0] (.cons 1 (.v 0) (.v 1) .nil) (.p (.v 2) (.v 0)) (.p (.v 2) (.v 1)) rfl h0))))
theorem a180 {x0 x1 x2 x3 x4 x5 x6 : Nat}  (h0 : (((x5 + x6) + 1) ≤ (x3 + x4))) (h1 : ((x0 + 1) ≤ (x5 + x6))) (h2 : ((x3 + x4) ≤ (x1 + x2))) : (((x0 + 1) + 1) ≤ (x1 + x2)) := (lin [x5, x6, x3, x4, x0, x1, x2] (.cons 1 (.p (.p (.v 0) (.v 1)) (.c 1)) (.p (.v 2) (.v 3)) (.cons 1 (.p (.v 4) (.c 1)) (.p (.v 0) (.v 1)) (.cons 1 (.p (.v 2) (.v 3)) (.p (.v 5) (.v 6)) .nil))) (.p (.p (.v 4) (.c 1)) (.c 1)) (.p (.v 5) (.v 6)) rfl h0 h1 h2)
theorem a181 {x0 x1 x2 : Nat}  (h0 : (x0 < (x1 + x2))) (h1 : (x1 ≤ x0)) : ((x0 - x1) < x2) := (lin [x0, x1, x2, (x0 - x1)] (.cons 1 (.p (.v 0) (.c 1)) (.p (.v 1) (.v 2)) (.cons 1 (.p (.v 3) (.v 1)) (.v 0) .nil)) (.p (.v 3) (.c 1)) (.v 2) rfl h0 (subE (lin [x1, x0] (.cons 1 (.v 0) (.v 1) .nil) (.v 0) (.v 1) rfl h1)))
theorem a182 {x0 x1 x2 x3 x4 : Nat}  (h0 : ((x0 + x4) ≤ x3)) (h1 : (x1 < x4)) (h2 : (¬ (x2 ≥ (x4 - x1)))) : ((x0 + (x1 + x2)) < x3) := (lin [x0, x4, x3, x2, (x4 - x1), x1] (.cons 1 (.p (.v 0) (.v 1)) (.v 2) (.cons 1 (.p (.v 3) (.c 1)) (.v 4) (.cons 1 (.p (.v 4) (.v 5)) (.v 1) .nil))) (.p (.p (.v 0) (.p (.v 5) (.v 3))) (.c 1)) (.v 2) rfl h0 (Nat.lt_of_not_le h2) (subE (lin [x1, x4] (.cons 1 (.p (.v 0) (.c 1)) (.v 1) .nil) (.v 0) (.v 1) rfl h1)))
theorem a183 {x0 : Nat}   : (x0 < ((2 * x0) + 1)) := (lin [x0] .nil (.p (.v 0) (.c 1)) (.p (.m 2 (.v 0)) (.c 1)) rfl )
theorem a184 {x0 x1 x2 : Nat}  (h0 : ((x2 + 1) ≤ x1)) : (((x0 + x1) - 1) < (x0 + x1)) := (lin [((x0 + x1) - 1), x0, x1] (.cons 1 (.p (.v 0) (.c 1)) (.p (.v 1) (.v 2)) .nil) (.p (.v 0) (.c 1)) (.p (.v 1) (.v 2)) rfl (subE (lin [x2, x1, x0] (.cons 1 (.p (.v 0) (.c 1)) (.v 1) .nil) (.c 1) (.p (.v 2) (.v 1)) rfl h0)))
theorem a185 {x0 x1 : Nat}  (h0 : ((x0 + 1) ≤ x1)) : (((x0 + 1) + 1) ≤ ((2 * x1) + 1)) := (lin [x0, x1] (.cons 1 (.p (.v 0) (.c 1)) (.v 1) .nil) (.p (.p (.v 0) (.c 1)) (.c 1)) (.p (.m 2 (.v 1)) (.c 1)) rfl h0)
theorem a186 {x0 x1 x2 : Nat}  (h0 : ((x2 + x0) ≤ x1)) : (x0 ≤ (x1 - x2)) := (lin [x2, x0, x1, (x1 - x2)] (.cons 1 (.p (.v 0) (.v 1)) (.v 2) (.cons 1 (.v 2) (.p (.v 3) (.v 0)) .nil)) (.v 1) (.v 3) rfl h0 (subU x1 x2))
theorem a187 {x0 x1 x2 : Nat}  (h0 : (¬ (x0 ≥ (x1 - x2)))) : (x0 < (x1 - x2)) := (lin [x0, (x1 - x2)] (.cons 1 (.p (.v 0) (.c 1)) (.v 1) .nil) (.p (.v 0) (.c 1)) (.v 1) rfl (Nat.lt_of_not_le h0))
theorem a188 {x0 x1 x2 x3 : Nat}  (h0 : ((x1 + x3) ≤ x0)) (h1 : (x0 < (x1 + x2))) : ((x0 - x1) < x2) := (lin [x0, x1, x2, (x0 - x1)] (.cons 1 (.p (.v 0) (.c 1)) (.p (.v 1) (.v 2)) (.cons 1 (.p (.v 3) (.v 1)) (.v 0) .nil)) (.p (.v 3) (.c 1)) (.v 2) rfl h1 (subE (lin [x1, x3, x0] (.cons 1 (.p (.v 0) (.v 1)) (.v 2) .nil) (.v 0) (.v 2) rfl h0)))
theorem a189 {x0 x1 x2 : Nat}  (h0 : (((max 0 x0) + 1) ≤ x2)) (h1 : (x1 < x0)) : ((x0 - x1) ≤ x2) := (lin [x0, (max 0 x0), x2, (x0 - x1), x1] (.cons 1 (.v 0) (.v 1) (.cons 1 (.p (.v 1) (.c 1)) (.v 2) (.cons 1 (.p (.v 3) (.v 4)) (.v 0) .nil))) (.v 3) (.v 2) rfl (Nat.le_max_right 0 x0) h0 (subE (lin [x1, x0] (.cons 1 (.p (.v 0) (.c 1)) (.v 1) .nil) (.v 0) (.v 1) rfl h1)))
theorem a190 {x0 x1 x2 : Nat}  (h0 : ((x0 + x2) ≤ x1)) : ((x0 + (x1 - x0)) = x1) := (Nat.le_antisymm (lin [(x1 - x0), x0, x1] (.cons 1 (.p (.v 0) (.v 1)) (.v 2) .nil) (.p (.v 1) (.v 0)) (.v 2) rfl (subE (lin [x0, x2, x1] (.cons 1 (.p (.v 0) (.v 1)) (.v 2) .nil) (.v 0) (.v 2) rfl h0))) (lin [x1, (x1 - x0), x0] (.cons 1 (.v 0) (.p (.v 1) (.v 2)) .nil) (.v 0) (.p (.v 2) (.v 1)) rfl (subU x1 x0)))
theorem a191 {x0 x1 : Nat}  (h0 : (x0 ≤ x1)) : ((x0 + 0) ≤ x1) := (lin [x0, x1] (.cons 1 (.v 0) (.v 1) .nil) (.p (.v 0) (.c 0)) (.v 1) rfl h0)
theorem a192 {x0 x1 x2 x3 x4 : Nat}  (h0 : (((x0 + x1) + x2) ≤ (x3 + x4))) (h1 : (0 < x0)) : ((((x0 - 1) + x1) + (x2 + 1)) ≤ (x3 + x4)) := (lin [x0, x1, x2, x3, x4, (x0 - 1)] (.cons 1 (.p (.p (.v 0) (.v 1)) (.v 2)) (.p (.v 3) (.v 4)) (.cons 1 (.p (.v 5) (.c 1)) (.v 0) .nil)) (.p (.p (.v 5) (.v 1)) (.p (.v 2) (.c 1))) (.p (.v 3) (.v 4)) rfl h0 (subE (lin [x0] (.cons 1 (.p (.c 0) (.c 1)) (.v 0) .nil) (.c 1) (.v 0) rfl h1)))
theorem a193 {x0 x1 x2 x3 x4 x5 x6 : Nat}  (h0 : ((x4 + x6) ≤ x5)) (h1 : (1 ≤ x2)) (h2 : (x3 = x5)) (h3 : (x4 = (x0 + x2))) (h4 : (¬ (((x2 - x1) == 0) = true))) : ((((x0 + x1) + (x2 - x1)) - 1) < x3) := (Or.elim (neqC (fun q => h4 (beq_iff_eq.mpr q))) (fun u2 => (False.elim (linF [(x2 - x1)] (.cons 1 (.p (.v 0) (.c 1)) (.c 0) .nil) rfl u2))) (fun u3 => (Or.elim (Nat.le_total x2 x1) (fun u5 => (False.elim (linF [(x2 - x1)] (.cons 1 (.p (.c 0) (.c 1)) (.v 0) (.cons 1 (.v 0) (.c 0) .nil)) rfl u3 (subZ u5)))) (fun u6 => (lin [x4, x6, x5, x3, x0, x2, (((x0 + x1) + (x2 - x1)) - 1), x1, (x2 - x1)] (.cons 1 (.p (.v 0) (.v 1)) (.v 2) (.cons 1 (.v 2) (.v 3) (.cons 1 (.p (.v 4) (.v 5)) (.v 0) (.cons 1 (.p (.v 6) (.c 1)) (.p (.p (.v 4) (.v 7)) (.v 8)) (.cons 1 (.p (.v 8) (.v 7)) (.v 5) .nil))))) (.p (.v 6) (.c 1)) (.v 3) rfl h0 (Nat.le_of_eq (Eq.symm h2)) (Nat.le_of_eq (Eq.symm h3)) (subE (lin [x2, (x2 - x1), x1, x0] (.cons 1 (.c 1) (.v 0) (.cons 1 (.v 0) (.p (.v 1) (.v 2)) .nil)) (.c 1) (.p (.p (.v 3) (.v 2)) (.v 1)) rfl h1 (subU x2 x1))) (subE u6))))))
theorem a194 {x0 x1 x2 : Nat}  (h0 : (x0 < ((x1 + x2) + 1))) : (x0 ≤ (x1 + x2)) := (lin [x0, x1, x2] (.cons 1 (.p (.v 0) (.c 1)) (.p (.p (.v 1) (.v 2)) (.c 1)) .nil) (.v 0) (.p (.v 1) (.v 2)) rfl h0)
theorem a195 {x0 x1 : Nat}  (h0 : ((x0 + 1) < x1)) : ((x0 + (x1 - x0)) ≤ x1) := (lin [(x1 - x0), x0, x1] (.cons 1 (.p (.v 0) (.v 1)) (.v 2) .nil) (.p (.v 1) (.v 0)) (.v 2) rfl (subE (lin [x0, x1] (.cons 1 (.p (.p (.v 0) (.c 1)) (.c 1)) (.v 1) .nil) (.v 0) (.v 1) rfl h0)))
theorem a196 {x0 x1 x2 : Nat}  (h0 : (x0 < x2)) (h1 : (x1 < (x2 - x0))) : ((x0 + x1) < x2) := (lin [x1, (x2 - x0), x0, x2] (.cons 1 (.p (.v 0) (.c 1)) (.v 1) (.cons 1 (.p (.v 1) (.v 2)) (.v 3) .nil)) (.p (.p (.v 2) (.v 0)) (.c 1)) (.v 3) rfl h1 (subE (lin [x0, x2] (.cons 1 (.p (.v 0) (.c 1)) (.v 1) .nil) (.v 0) (.v 1) rfl h0)))
theorem a197 {x0 : Nat}  (h0 : (¬ (x0 ≤ 1))) : (((x0 - 2) + 1) < x0) := (lin [(x0 - 2), x0] (.cons 1 (.p (.v 0) (.c 2)) (.v 1) .nil) (.p (.p (.v 0) (.c 1)) (.c 1)) (.v 1) rfl (subE (lin [x0] (.cons 1 (.p (.c 1) (.c 1)) (.v 0) .nil) (.c 2) (.v 0) rfl (Nat.lt_of_not_le h0))))
theorem a198 {x0 x1 x2 x3 : Nat}  (h0 : ((x1 - x2) ≤ x3)) (h1 : ((x2 + (min x3 (x1 - x2))) ≤ x0)) (h2 : (x0 < x1)) : False := (linF [x1, (x1 - x2), x2, (min x3 (x1 - x2)), x0] (.cons 1 (.v 0) (.p (.v 1) (.v 2)) (.cons 1 (.p (.v 2) (.v 3)) (.v 4) (.cons 1 (.p (.v 4) (.c 1)) (.v 0) (.cons 1 (.v 1) (.v 3) .nil)))) rfl (subU x1 x2) h1 h2 (minB (lin [(x1 - x2), x3] (.cons 1 (.v 0) (.v 1) .nil) (.v 0) (.v 1) rfl h0)))
theorem a199 {x0 x1 x2 x3 : Nat}  (h0 : (1 ≤ x3)) (h1 : (x0 = (x1 + x3))) (h2 : (¬ (((x3 - x2) == 0) = true))) : ((x0 - 1) = (((x1 + x2) + (x3 - x2)) - 1)) := (Or.elim (neqC (fun q => h2 (beq_iff_eq.mpr q))) (fun u1 => (Nat.le_antisymm (lin [x0, x1, x3, (x3 - x2), x2, (((x1 + x2) + (x3 - x2)) - 1), (x0 - 1)] (.cons 1 (.v 0) (.p (.v 1) (.v 2)) (.cons 1 (.v 2) (.p (.v 3) (.v 4)) (.cons 1 (.p (.p (.v 1) (.v 4)) (.v 3)) (.p (.v 5) (.c 1)) (.cons 1 (.p (.v 6) (.c 1)) (.v 0) .nil)))) (.v 6) (.v 5) rfl (Nat.le_of_eq h1) (subU x3 x2) (subU ((x1 + x2) + (x3 - x2)) 1) (subE (lin [(x3 - x2), x0] (.cons 1 (.p (.v 0) (.c 1)) (.c 0) .nil) (.c 1) (.v 1) rfl u1))) (False.elim (linF [(x3 - x2)] (.cons 1 (.p (.v 0) (.c 1)) (.c 0) .nil) rfl u1)))) (fun u2 => (Or.elim (Nat.le_total x3 x2) (fun u3 => (Nat.le_antisymm (lin [x0, x1, x3, x2, (x3 - x2), (((x1 + x2) + (x3 - x2)) - 1), (x0 - 1)] (.cons 1 (.v 0) (.p (.v 1) (.v 2)) (.cons 1 (.p (.p (.v 1) (.v 3)) (.v 4)) (.p (.v 5) (.c 1)) (.cons 1 (.v 2) (.v 3) (.cons 1 (.p (.v 6) (.c 1)) (.v 0) .nil)))) (.v 6) (.v 5) rfl (Nat.le_of_eq h1) (subU ((x1 + x2) + (x3 - x2)) 1) u3 (subE (lin [(x3 - x2), x0] (.cons 1 (.p (.c 0) (.c 1)) (.v 0) (.cons 1 (.v 0) (.c 0) .nil)) (.c 1) (.v 1) rfl u2 (subZ u3)))) (False.elim (linF [(x3 - x2)] (.cons 1 (.p (.c 0) (.c 1)) (.v 0) (.cons 1 (.v 0) (.c 0) .nil)) rfl u2 (subZ u3))))) (fun u4 => (Nat.le_antisymm (lin [x0, x1, x3, (x3 - x2), x2, (((x1 + x2) + (x3 - x2)) - 1), (x0 - 1)] (.cons 1 (.v 0) (.p (.v 1) (.v 2)) (.cons 1 (.v 2) (.p (.v 3) (.v 4)) (.cons 1 (.p (.p (.v 1) (.v 4)) (.v 3)) (.p (.v 5) (.c 1)) (.cons 1 (.p (.v 6) (.c 1)) (.v 0) .nil)))) (.v 6) (.v 5) rfl (Nat.le_of_eq h1) (subU x3 x2) (subU ((x1 + x2) + (x3 - x2)) 1) (subE (lin [x3, x1, x0] (.cons 1 (.c 1) (.v 0) (.cons 1 (.p (.v 1) (.v 0)) (.v 2) .nil)) (.c 1) (.v 2) rfl h0 (Nat.le_of_eq (Eq.symm h1))))) (lin [x1, x3, x0, (x0 - 1), (x3 - x2), x2, (((x1 + x2) + (x3 - x2)) - 1)] (.cons 1 (.p (.v 0) (.v 1)) (.v 2) (.cons 1 (.v 2) (.p (.v 3) (.c 1)) (.cons 1 (.p (.v 4) (.v 5)) (.v 1) (.cons 1 (.p (.v 6) (.c 1)) (.p (.p (.v 0) (.v 5)) (.v 4)) .nil)))) (.v 6) (.v 3) rfl (Nat.le_of_eq (Eq.symm h1)) (subU x0 1) (subE u4) (subE (lin [(x3 - x2), x1, x2] (.cons 1 (.p (.c 0) (.c 1)) (.v 0) .nil) (.c 1) (.p (.p (.v 1) (.v 2)) (.v 0)) rfl u2))))))))
theorem a200 {x0 : Nat}  (h0 : (1 < x0)) : (0 < x0) := (lin [x0] (.cons 1 (.p (.c 1) (.c 1)) (.v 0) .nil) (.p (.c 0) (.c 1)) (.v 0) rfl h0)
theorem a201 {x0 x1 x2 x3 : Nat}  (h0 : ((x0 + 1) = x3)) (h1 : ((x3 + x1) ≤ x2)) : ((x0 + (x1 + 1)) ≤ x2) := (lin [x0, x3, x1, x2] (.cons 1 (.p (.v 0) (.c 1)) (.v 1) (.cons 1 (.p (.v 1) (.v 2)) (.v 3) .nil)) (.p (.v 0) (.p (.v 2) (.c 1))) (.v 3) rfl (Nat.le_of_eq h0) h1)
theorem a202 {x0 x1 : Nat}  (h0 : ((x0 + (max 0 x1)) ≤ x1)) : (x0 ≤ 1) := (lin [x1, (max 0 x1), x0] (.cons 1 (.v 0) (.v 1) (.cons 1 (.p (.v 2) (.v 1)) (.v 0) .nil)) (.v 2) (.c 1) rfl (Nat.le_max_right 0 x1) h0)
theorem a203 {x0 x1 x2 x3 : Nat}  (h0 : ((x0 + (min x1 (x3 - x0))) ≤ x2)) (h1 : (x2 < x3)) : ((x0 + x1) ≤ x2) := (Or.elim (Nat.le_total x1 (x3 - x0)) (fun u2 => (lin [x0, (min x1 (x3 - x0)), x2, x1] (.cons 1 (.p (.v 0) (.v 1)) (.v 2) (.cons 1 (.v 3) (.v 1) .nil)) (.p (.v 0) (.v 3)) (.v 2) rfl h0 (minA u2))) (fun u3 => (False.elim (linF [x3, (x3 - x0), x0, (min x1 (x3 - x0)), x2] (.cons 1 (.v 0) (.p (.v 1) (.v 2)) (.cons 1 (.p (.v 2) (.v 3)) (.v 4) (.cons 1 (.p (.v 4) (.c 1)) (.v 0) (.cons 1 (.v 1) (.v 3) .nil)))) rfl (subU x3 x0) h0 h1 (minB u3)))))
theorem a204 {x0 x1 : Nat}  (h0 : ((x1 + 1) < x0)) : (0 < (x0 - x1)) := (lin [x1, x0, (x0 - x1)] (.cons 1 (.p (.p (.v 0) (.c 1)) (.c 1)) (.v 1) (.cons 1 (.v 1) (.p (.v 2) (.v 0)) .nil)) (.p (.c 0) (.c 1)) (.v 2) rfl h0 (subU x0 x1))
theorem a205 {x0 : Nat}  (h0 : (0 = x0)) (h1 : (2 ≤ x0)) : False := (linF [x0] (.cons 1 (.v 0) (.c 0) (.cons 1 (.c 2) (.v 0) .nil)) rfl (Nat.le_of_eq (Eq.symm h0)) h1)
theorem a206 {x0 x1 : Nat}  (h0 : (x0 = ((x1 + 1) + 1))) (h1 : (x0 ≤ 1)) : False := (linF [x1, x0] (.cons 1 (.p (.p (.v 0) (.c 1)) (.c 1)) (.v 1) (.cons 1 (.v 1) (.c 1) .nil)) rfl (Nat.le_of_eq (Eq.symm h0)) h1)
theorem a207 {x0 x1 x2 x3 : Nat}  (h0 : ((x0 + x1) ≤ x3)) (h1 : (x2 = x3)) : ((x0 + x1) ≤ x2) := (lin [x0, x1, x3, x2] (.cons 1 (.p (.v 0) (.v 1)) (.v 2) (.cons 1 (.v 2) (.v 3) .nil)) (.p (.v 0) (.v 1)) (.v 3) rfl h0 (Nat.le_of_eq (Eq.symm h1)))
theorem a208 {x0 x1 x2 : Int} (h0 : (x0 ≤ x2)) (h1 : (¬ (x1 < x2))) : (x0 ≤ x1) := (Int.le_trans h0 (Int.not_lt.mp h1))
theorem a209 {x0 x1 x2 x3 : Nat}  (h0 : (x1 < (x3 - x0))) (h1 : (x1 < x2)) : (((x0 + x1) + 1) ≤ (x0 + (min x2 (x3 - x0)))) := (Or.elim (Nat.le_total x3 x0) (fun u2 => (lin [x1, (x3 - x0), (min x2 (x3 - x0)), x0] (.cons 1 (.p (.v 0) (.c 1)) (.v 1) (.cons 1 (.v 1) (.v 2) .nil)) (.p (.p (.v 3) (.v 0)) (.c 1)) (.p (.v 3) (.v 2)) rfl h0 (minB (lin [(x3 - x0), x2] (.cons 1 (.v 0) (.c 0) .nil) (.v 0) (.v 1) rfl (subZ u2))))) (fun u3 => (Or.elim (Nat.le_total x2 (x3 - x0)) (fun u5 => (lin [x1, x2, (min x2 (x3 - x0)), x0] (.cons 1 (.p (.v 0) (.c 1)) (.v 1) (.cons 1 (.v 1) (.v 2) .nil)) (.p (.p (.v 3) (.v 0)) (.c 1)) (.p (.v 3) (.v 2)) rfl h1 (minA u5))) (fun u6 => (lin [x1, (x3 - x0), (min x2 (x3 - x0)), x0] (.cons 1 (.p (.v 0) (.c 1)) (.v 1) (.cons 1 (.v 1) (.v 2) .nil)) (.p (.p (.v 3) (.v 0)) (.c 1)) (.p (.v 3) (.v 2)) rfl h0 (minB u6))))))
theorem a211 {x0 x1 x2 : Nat}  (h0 : (x0 < x2)) : ((x0 + (min x1 (x2 - x0))) ≤ x2) := (lin [(min x1 (x2 - x0)), (x2 - x0), x0, x2] (.cons 1 (.v 0) (.v 1) (.cons 1 (.p (.v 1) (.v 2)) (.v 3) .nil)) (.p (.v 2) (.v 0)) (.v 3) rfl (Nat.min_le_right x1 (x2 - x0)) (subE (lin [x0, x2] (.cons 1 (.p (.v 0) (.c 1)) (.v 1) .nil) (.v 0) (.v 1) rfl h0)))
theorem a212 {x0 x1 x2 x3 : Nat}  (h0 : ((x0 + x3) ≤ x2)) (h1 : (x1 < x3)) : ((x0 + x1) ≤ x2) := (lin [x0, x3, x2, x1] (.cons 1 (.p (.v 0) (.v 1)) (.v 2) (.cons 1 (.p (.v 3) (.c 1)) (.v 1) .nil)) (.p (.v 0) (.v 3)) (.v 2) rfl h0 h1)
theorem a213 {x0 : Nat}  (h0 : (1 < x0)) (h1 : (¬ (((x0 - 1) == 1) = true))) : (1 < (x0 - 1)) := (Or.elim (neqC (fun q => h1 (beq_iff_eq.mpr q))) (fun u2 => (lin [x0, (x0 - 1)] (.cons 2 (.p (.c 1) (.c 1)) (.v 0) (.cons 2 (.v 0) (.p (.v 1) (.c 1)) (.cons 1 (.p (.v 1) (.c 1)) (.c 1) .nil))) (.p (.c 1) (.c 1)) (.v 1) rfl h0 (subU x0 1) u2)) (fun u3 => (lin [(x0 - 1)] (.cons 1 (.p (.c 1) (.c 1)) (.v 0) .nil) (.p (.c 1) (.c 1)) (.v 0) rfl u3)))
theorem a214 {x0 x1 x2 x3 : Nat}  (h0 : (x3 = (x0 + x1))) (h1 : (x3 ≤ x2)) (h2 : (¬ (x2 = (x0 + x1)))) : ((x0 + x1) ≤ (x2 - 1)) := (Or.elim (neqC h2) (fun u2 => (lin [x0, x1, x3, x2, (x2 - 1)] (.cons 2 (.p (.v 0) (.v 1)) (.v 2) (.cons 2 (.v 2) (.v 3) (.cons 1 (.v 3) (.p (.v 4) (.c 1)) (.cons 1 (.p (.v 3) (.c 1)) (.p (.v 0) (.v 1)) .nil)))) (.p (.v 0) (.v 1)) (.v 4) rfl (Nat.le_of_eq (Eq.symm h0)) h1 (subU x2 1) u2)) (fun u3 => (lin [x2, (x2 - 1), x0, x1] (.cons 1 (.v 0) (.p (.v 1) (.c 1)) (.cons 1 (.p (.p (.v 2) (.v 3)) (.c 1)) (.v 0) .nil)) (.p (.v 2) (.v 3)) (.v 1) rfl (subU x2 1) u3)))
theorem a215 {x0 x1 x2 x3 : Nat}  (h0 : (x0 < x2)) : (((x0 + (min x1 (x2 - x0))) - ((x0 + x3) + 1)) ≤ (x2 - 0)) := (lin [((x0 + (min x1 (x2 - x0))) - ((x0 + x3) + 1)), x0, (min x1 (x2 - x0)), (x2 - x0), x2, (x2 - 0)] (.cons 1 (.v 0) (.p (.v 1) (.v 2)) (.cons 1 (.v 2) (.v 3) (.cons 1 (.v 4) (.p (.v 5) (.c 0)) (.cons 1 (.p (.v 3) (.v 1)) (.v 4) .nil)))) (.v 0) (.v 5) rfl (Nat.sub_le (x0 + (min x1 (x2 - x0))) ((x0 + x3) + 1)) (Nat.min_le_right x1 (x2 - x0)) (subU x2 0) (subE (lin [x0, x2] (.cons 1 (.p (.v 0) (.c 1)) (.v 1) .nil) (.v 0) (.v 1) rfl h0)))
theorem a216 {x0 x1 x2 x3 x4 : Nat}  (h0 : (x0 < (x1 + (x2 + 1)))) (h1 : (x3 = (x1 + x4))) (h2 : (x3 ≤ x0)) (h3 : (¬ (x0 = (x1 + x4)))) : ((x0 - 1) < (x1 + x2)) := (Or.elim (neqC h3) (fun u2 => (lin [x0, x1, x2, (x0 - 1)] (.cons 1 (.p (.v 0) (.c 1)) (.p (.v 1) (.p (.v 2) (.c 1))) (.cons 1 (.p (.v 3) (.c 1)) (.v 0) .nil)) (.p (.v 3) (.c 1)) (.p (.v 1) (.v 2)) rfl h0 (subE (lin [x1, x4, x3, x0] (.cons 1 (.p (.v 0) (.v 1)) (.v 2) (.cons 1 (.v 2) (.v 3) (.cons 1 (.p (.v 3) (.c 1)) (.p (.v 0) (.v 1)) .nil))) (.c 1) (.v 3) rfl (Nat.le_of_eq (Eq.symm h1)) h2 u2)))) (fun u3 => (lin [x0, x1, x2, (x0 - 1)] (.cons 1 (.p (.v 0) (.c 1)) (.p (.v 1) (.p (.v 2) (.c 1))) (.cons 1 (.p (.v 3) (.c 1)) (.v 0) .nil)) (.p (.v 3) (.c 1)) (.p (.v 1) (.v 2)) rfl h0 (subE (lin [x1, x4, x0] (.cons 1 (.p (.p (.v 0) (.v 1)) (.c 1)) (.v 2) .nil) (.c 1) (.v 2) rfl u3)))))
theorem a217 {x0 x1 x2 : Nat}  (h0 : ((x0 == 0) = true)) : (x0 ≤ (x1 - x2)) := (lin [x0, (x1 - x2)] (.cons 1 (.v 0) (.c 0) .nil) (.v 0) (.v 1) rfl (Nat.le_of_eq (eq_of_beq h0)))
theorem a218 {x0 x1 x2 : Nat}  (h0 : ((x2 + 1) ≤ x1)) : (x0 ≤ ((x0 + x1) - (x2 + 1))) := (lin [x2, x1, x0, ((x0 + x1) - (x2 + 1))] (.cons 1 (.p (.v 0) (.c 1)) (.v 1) (.cons 1 (.p (.v 2) (.v 1)) (.p (.v 3) (.p (.v 0) (.c 1))) .nil)) (.v 2) (.v 3) rfl h0 (subU (x0 + x1) (x2 + 1)))
theorem a219 {x0 x1 : Nat}  (h0 : (1 < x0)) (h1 : (x0 ≤ x1)) : ((x0 - 1) ≤ x1) := (lin [x0, x1, (x0 - 1)] (.cons 1 (.v 0) (.v 1) (.cons 1 (.p (.v 2) (.c 1)) (.v 0) .nil)) (.v 2) (.v 1) rfl h1 (subE (lin [x0] (.cons 1 (.p (.c 1) (.c 1)) (.v 0) .nil) (.c 1) (.v 0) rfl h0)))
theorem a220 {x0 x1 x2 x3 x4 : Nat}  (h0 : (x0 = (x2 + x3))) (h1 : (x0 ≤ x1)) (h2 : (x1 < (x2 + (x4 + 1)))) (h3 : (¬ (((x2 + x3) < x1) ∧ (x1 ≤ (x2 + x4))))) (h4 : (¬ (x1 = (x2 + x3)))) : False := (Or.elim (Decidable.not_and_iff_or_not.mp h3) (fun u1 => (Or.elim (neqC h4) (fun u3 => (linF [x2, x3, x0, x1] (.cons 1 (.p (.v 0) (.v 1)) (.v 2) (.cons 1 (.v 2) (.v 3) (.cons 1 (.p (.v 3) (.c 1)) (.p (.v 0) (.v 1)) .nil))) rfl (Nat.le_of_eq (Eq.symm h0)) h1 u3)) (fun u4 => (linF [x1, x2, x3] (.cons 1 (.v 0) (.p (.v 1) (.v 2)) (.cons 1 (.p (.p (.v 1) (.v 2)) (.c 1)) (.v 0) .nil)) rfl (Nat.le_of_not_lt u1) u4)))) (fun u2 => (linF [x1, x2, x4] (.cons 1 (.p (.v 0) (.c 1)) (.p (.v 1) (.p (.v 2) (.c 1))) (.cons 1 (.p (.p (.v 1) (.v 2)) (.c 1)) (.v 0) .nil)) rfl h2 (Nat.lt_of_not_le u2))))
theorem a221 {x0 x1 x2 x3 x4 : Nat}  (h0 : (((x2 + x3) < x0) ∧ (x0 ≤ (x2 + x4)))) (h1 : (x0 ≤ x1)) (h2 : (x1 = (x2 + x3))) : False := (linF [x2, x3, x0, x1] (.cons 1 (.p (.p (.v 0) (.v 1)) (.c 1)) (.v 2) (.cons 1 (.v 2) (.v 3) (.cons 1 (.v 3) (.p (.v 0) (.v 1)) .nil))) rfl (And.left h0) h1 (Nat.le_of_eq h2))
theorem a222 {x0 x1 x2 x3 x4 : Nat}  (h0 : (((x0 + x1) + x4) ≤ (x2 + x3))) (h1 : (1 < x1)) : (((x0 + (x1 - 1)) + 1) ≤ (x2 + x3)) := (lin [x0, x1, x4, x2, x3, (x1 - 1)] (.cons 1 (.p (.p (.v 0) (.v 1)) (.v 2)) (.p (.v 3) (.v 4)) (.cons 1 (.p (.v 5) (.c 1)) (.v 1) .nil)) (.p (.p (.v 0) (.v 5)) (.c 1)) (.p (.v 3) (.v 4)) rfl h0 (subE (lin [x1] (.cons 1 (.p (.c 1) (.c 1)) (.v 0) .nil) (.c 1) (.v 0) rfl h1)))
theorem a223 {x0 x1 x2 : Nat}  (h0 : (1 ≤ x2)) (h1 : (x0 < (x1 + x2))) : ((x0 - x1) < x2) := (Or.elim (Nat.le_total x0 x1) (fun u2 => (lin [x2, (x0 - x1)] (.cons 1 (.c 1) (.v 0) (.cons 1 (.v 1) (.c 0) .nil)) (.p (.v 1) (.c 1)) (.v 0) rfl h0 (subZ u2))) (fun u3 => (lin [x0, x1, x2, (x0 - x1)] (.cons 1 (.p (.v 0) (.c 1)) (.p (.v 1) (.v 2)) (.cons 1 (.p (.v 3) (.v 1)) (.v 0) .nil)) (.p (.v 3) (.c 1)) (.v 2) rfl h1 (subE u3))))
theorem a224 {x0 x1 x2 : Int} (h0 : (x0 < (x2 + (1 : Int)))) (h1 : (x2 ≤ x1)) : (x0 ≤ x1) := (Int.le_trans (Int.le_of_lt_add_one h0) h1)
theorem a225 {x0 x1 x2 x3 x4 : Nat}  (h0 : ((x0 + x4) ≤ x3)) (h1 : (x2 ≤ x4)) (h2 : (¬ (x1 ≥ x2))) : ((x0 + (x1 + ((x2 - x1) / 2))) < x3) := (Nat.le_of_not_lt fun u1 => (linF [x0, x4, x3, x2, x1, ((x2 - x1) / 2), (x2 - x1)] (.cons 2 (.p (.v 0) (.v 1)) (.v 2) (.cons 2 (.v 3) (.v 1) (.cons 1 (.p (.v 4) (.c 1)) (.v 3) (.cons 1 (.m 2 (.v 5)) (.v 6) (.cons 1 (.v 3) (.p (.v 6) (.v 4)) (.cons 2 (.p (.v 6) (.v 4)) (.v 3) (.cons 2 (.p (.v 2) (.c 1)) (.p (.p (.v 0) (.p (.v 4) (.v 5))) (.c 1)) .nil))))))) rfl h0 h1 (Nat.lt_of_not_le h2) (halfL (x2 - x1)) (subU x2 x1) (subE (lin [x1, x2] (.cons 1 (.p (.v 0) (.c 1)) (.v 1) .nil) (.v 0) (.v 1) rfl (Nat.lt_of_not_le h2))) u1))
theorem a226 {x0 x1 x2 x3 : Nat}  (h0 : ((((x0 + x1) - (x2 + 1)) ≤ x3) ∧ (x3 < (x0 + x1)))) : (((x0 + x1) - (x2 + 1)) ≤ x3) := (lin [((x0 + x1) - (x2 + 1)), x3] (.cons 1 (.v 0) (.v 1) .nil) (.v 0) (.v 1) rfl (And.left h0))
theorem a227 {x0 x1 x2 x3 : Nat}  (h0 : ((((x1 + x2) - (x3 + 1)) ≤ x0) ∧ (x0 < (x1 + x2)))) : (x0 < (x1 + x2)) := (lin [x0, x1, x2] (.cons 1 (.p (.v 0) (.c 1)) (.p (.v 1) (.v 2)) .nil) (.p (.v 0) (.c 1)) (.p (.v 1) (.v 2)) rfl (And.right h0))
theorem a228 {x0 x1 : Nat}  (h0 : (¬ (x1 < x0))) : ((x0 + (x1 - x0)) = x1) := (Nat.le_antisymm (lin [(x1 - x0), x0, x1] (.cons 1 (.p (.v 0) (.v 1)) (.v 2) .nil) (.p (.v 1) (.v 0)) (.v 2) rfl (subE (lin [x0, x1] (.cons 1 (.v 0) (.v 1) .nil) (.v 0) (.v 1) rfl (Nat.le_of_not_lt h0)))) (lin [x1, (x1 - x0), x0] (.cons 1 (.v 0) (.p (.v 1) (.v 2)) .nil) (.v 0) (.p (.v 2) (.v 1)) rfl (subU x1 x0)))
theorem a229 {x0 x1 : Nat}  (h0 : (¬ (x0 ≥ x1))) : (((x0 + ((x1 - x0) / 2)) + 1) ≤ x1) := (Nat.le_of_not_lt fun u1 => (linF [x0, x1, ((x1 - x0) / 2), (x1 - x0)] (.cons 1 (.p (.v 0) (.c 1)) (.v 1) (.cons 1 (.m 2 (.v 2)) (.v 3) (.cons 1 (.p (.v 3) (.v 0)) (.v 1) (.cons 2 (.p (.v 1) (.c 1)) (.p (.p (.v 0) (.v 2)) (.c 1)) .nil)))) rfl (Nat.lt_of_not_le h0) (halfL (x1 - x0)) (subE (lin [x0, x1] (.cons 1 (.p (.v 0) (.c 1)) (.v 1) .nil) (.v 0) (.v 1) rfl (Nat.lt_of_not_le h0))) u1))
theorem a230 {x0 x1 x2 x3 : Nat}  (h0 : ((((x0 + x1) - (x2 + 1)) ≤ x3) ∧ (x3 < (x0 + x1)))) : (((x0 + x1) - (x2 + 1)) ≤ (((((x0 + x1) - (x2 + 1)) + (x0 + x1)) - 1) - x3)) := (lin [x3, x0, x1, ((((x0 + x1) - (x2 + 1)) + (x0 + x1)) - 1), (((((x0 + x1) - (x2 + 1)) + (x0 + x1)) - 1) - x3), ((x0 + x1) - (x2 + 1))] (.cons 1 (.p (.v 0) (.c 1)) (.p (.v 1) (.v 2)) (.cons 1 (.v 3) (.p (.v 4) (.v 0)) (.cons 1 (.p (.v 5) (.p (.v 1) (.v 2))) (.p (.v 3) (.c 1)) .nil))) (.v 5) (.v 4) rfl (And.right h0) (subU ((((x0 + x1) - (x2 + 1)) + (x0 + x1)) - 1) x3) (subU (((x0 + x1) - (x2 + 1)) + (x0 + x1)) 1))
theorem a231 {x0 x1 : Int} (h0 : ((x0 + (1 : Int)) ≤ x1)) : (x0 ≤ x1) := (Int.le_of_lt (Int.lt_of_add_one_le h0))
theorem a232 {x0 x1 x2 x3 : Nat}  (h0 : ((x0 - x1) ≤ (x2 - x3))) (h1 : (x3 < x2)) : ((x0 - ((x1 + ((x0 - x1) / 2)) + 1)) ≤ (x2 - (x3 + 1))) := (Or.elim (Nat.le_total x0 x1) (fun u2 => (lin [(x0 - ((x1 + ((x0 - x1) / 2)) + 1)), (x2 - (x3 + 1))] (.cons 1 (.v 0) (.c 0) .nil) (.v 0) (.v 1) rfl (subZ (lin [x0, x1, ((x0 - x1) / 2)] (.cons 1 (.v 0) (.v 1) .nil) (.v 0) (.p (.p (.v 1) (.v 2)) (.c 1)) rfl u2)))) (fun u3 => (Or.elim (Nat.le_total x0 ((x1 + ((x0 - x1) / 2)) + 1)) (fun u5 => (lin [(x0 - ((x1 + ((x0 - x1) / 2)) + 1)), (x2 - (x3 + 1))] (.cons 1 (.v 0) (.c 0) .nil) (.v 0) (.v 1) rfl (subZ u5))) (fun u6 => (Nat.le_of_not_lt fun u7 => (linF [x0, (x0 - x1), x1, (x2 - x3), x2, (x2 - (x3 + 1)), x3, (x0 - ((x1 + ((x0 - x1) / 2)) + 1)), ((x0 - x1) / 2)] (.cons 1 (.v 0) (.p (.v 1) (.v 2)) (.cons 1 (.v 1) (.v 3) (.cons 1 (.v 4) (.p (.v 5) (.p (.v 6) (.c 1))) (.cons 1 (.p (.v 3) (.v 6)) (.v 4) (.cons 1 (.p (.v 7) (.p (.p (.v 2) (.v 8)) (.c 1))) (.v 0) (.cons 1 (.p (.v 5) (.c 1)) (.v 7) .nil)))))) rfl (subU x0 x1) h0 (subU x2 (x3 + 1)) (subE (lin [x3, x2] (.cons 1 (.p (.v 0) (.c 1)) (.v 1) .nil) (.v 0) (.v 1) rfl h1)) (subE u6) u7))))))
theorem a233 {x0 x1 x2 x3 x4 : Nat}  (h0 : (((x0 + x1) + x2) ≤ (x3 + x4))) (h1 : (1 < x1)) : (((x0 + (x1 - 1)) + (x2 + 1)) ≤ (x3 + x4)) := (lin [x0, x1, x2, x3, x4, (x1 - 1)] (.cons 1 (.p (.p (.v 0) (.v 1)) (.v 2)) (.p (.v 3) (.v 4)) (.cons 1 (.p (.v 5) (.c 1)) (.v 1) .nil)) (.p (.p (.v 0) (.v 5)) (.p (.v 2) (.c 1))) (.p (.v 3) (.v 4)) rfl h0 (subE (lin [x1] (.cons 1 (.p (.c 1) (.c 1)) (.v 0) .nil) (.c 1) (.v 0) rfl h1)))
theorem a234 {x0 x1 x2 x3 : Nat}  (h0 : ((((x0 + x1) - (x2 + 1)) ≤ x3) ∧ (x3 < (x0 + x1)))) : ((((((x0 + x1) - (x2 + 1)) + (x0 + x1)) - 1) - x3) < (x0 + x1)) := (lin [((x0 + x1) - (x2 + 1)), x3, (((((x0 + x1) - (x2 + 1)) + (x0 + x1)) - 1) - x3), ((((x0 + x1) - (x2 + 1)) + (x0 + x1)) - 1), x0, x1] (.cons 1 (.v 0) (.v 1) (.cons 1 (.p (.v 2) (.v 1)) (.v 3) (.cons 1 (.p (.v 3) (.c 1)) (.p (.v 0) (.p (.v 4) (.v 5))) .nil))) (.p (.v 2) (.c 1)) (.p (.v 4) (.v 5)) rfl (And.left h0) (subE (lin [x3, x0, x1, ((x0 + x1) - (x2 + 1)), ((((x0 + x1) - (x2 + 1)) + (x0 + x1)) - 1)] (.cons 1 (.p (.v 0) (.c 1)) (.p (.v 1) (.v 2)) (.cons 1 (.p (.v 3) (.p (.v 1) (.v 2))) (.p (.v 4) (.c 1)) .nil)) (.v 0) (.v 4) rfl (And.right h0) (subU (((x0 + x1) - (x2 + 1)) + (x0 + x1)) 1))) (subE (lin [x3, x0, x1, ((x0 + x1) - (x2 + 1))] (.cons 1 (.p (.v 0) (.c 1)) (.p (.v 1) (.v 2)) .nil) (.c 1) (.p (.v 3) (.p (.v 1) (.v 2))) rfl (And.right h0))))
theorem a235 {x0 x1 x2 x3 : Nat}  (h0 : (((x0 + x2) < x1) ∧ (x1 ≤ (x0 + x3)))) : (x0 ≤ (x1 - 1)) := (lin [x0, x2, x1, (x1 - 1)] (.cons 1 (.p (.p (.v 0) (.v 1)) (.c 1)) (.v 2) (.cons 1 (.v 2) (.p (.v 3) (.c 1)) .nil)) (.v 0) (.v 3) rfl (And.left h0) (subU x1 1))
theorem a236 {x0 x1 x2 : Nat}  (h0 : (x0 < ((x1 + ((x2 - x1) / 2)) + 1))) : (x0 ≤ (x1 + ((x2 - x1) / 2))) := (lin [x0, x1, ((x2 - x1) / 2)] (.cons 1 (.p (.v 0) (.c 1)) (.p (.p (.v 1) (.v 2)) (.c 1)) .nil) (.v 0) (.p (.v 1) (.v 2)) rfl h0)
theorem a237 {x0 x1 x2 : Nat}  (h0 : (1 ≤ x1)) (h1 : (x0 = (x2 + x1))) : ((x0 - 1) < x0) := (lin [(x0 - 1), x0] (.cons 1 (.p (.v 0) (.c 1)) (.v 1) .nil) (.p (.v 0) (.c 1)) (.v 1) rfl (subE (lin [x1, x2, x0] (.cons 1 (.c 1) (.v 0) (.cons 1 (.p (.v 1) (.v 0)) (.v 2) .nil)) (.c 1) (.v 2) rfl h0 (Nat.le_of_eq (Eq.symm h1)))))
theorem a238 {x0 x1 x2 x3 x4 : Nat}  (h0 : (((x2 + x3) < x0) ∧ (x0 ≤ (x2 + x4)))) (h1 : (x0 ≤ x1)) : ((x0 - 1) ≤ (x1 - 1)) := (lin [x0, x1, (x1 - 1), (x0 - 1)] (.cons 1 (.v 0) (.v 1) (.cons 1 (.v 1) (.p (.v 2) (.c 1)) (.cons 1 (.p (.v 3) (.c 1)) (.v 0) .nil))) (.v 3) (.v 2) rfl h1 (subU x1 1) (subE (lin [x2, x3, x0] (.cons 1 (.p (.p (.v 0) (.v 1)) (.c 1)) (.v 2) .nil) (.c 1) (.v 2) rfl (And.left h0))))
theorem a239 {x0 x1 x2 : Nat}  (h0 : (x1 ≤ x2)) (h1 : (¬ (x0 ≥ x1))) : ((x0 + ((x1 - x0) / 2)) < x2) := (Nat.le_of_not_lt fun u1 => (linF [x1, x2, x0, ((x1 - x0) / 2), (x1 - x0)] (.cons 2 (.v 0) (.v 1) (.cons 1 (.p (.v 2) (.c 1)) (.v 0) (.cons 1 (.m 2 (.v 3)) (.v 4) (.cons 1 (.p (.v 4) (.v 2)) (.v 0) (.cons 2 (.p (.v 1) (.c 1)) (.p (.p (.v 2) (.v 3)) (.c 1)) .nil))))) rfl h0 (Nat.lt_of_not_le h1) (halfL (x1 - x0)) (subE (lin [x0, x1] (.cons 1 (.p (.v 0) (.c 1)) (.v 1) .nil) (.v 0) (.v 1) rfl (Nat.lt_of_not_le h1))) u1))
theorem a240 {x0 x1 x2 x3 : Int} (h0 : (x0 ≤ x2)) (h1 : (x2 = x3)) (h2 : (¬ (x1 < x3))) : (x0 ≤ x1) := (Int.le_trans (Int.le_trans h0 (Int.le_of_eq h1)) (Int.not_lt.mp h2))
theorem a241 {x0 x1 x2 x3 x4 x5 x6 x7 x8 : Nat}  (h0 : ((((x4 + 1) + x2) + x3) ≤ (x5 + x6))) (h1 : (((x0 + x1) + 1) ≤ (x2 + x3))) (h2 : (((x7 + x8) + (max 0 (x5 + x6))) ≤ (x0 + x1))) : False := (linF [x4, x2, x3, x5, x6, x0, x1, (max 0 (x5 + x6)), x7, x8] (.cons 1 (.p (.p (.p (.v 0) (.c 1)) (.v 1)) (.v 2)) (.p (.v 3) (.v 4)) (.cons 1 (.p (.p (.v 5) (.v 6)) (.c 1)) (.p (.v 1) (.v 2)) (.cons 1 (.p (.v 3) (.v 4)) (.v 7) (.cons 1 (.p (.p (.v 8) (.v 9)) (.v 7)) (.p (.v 5) (.v 6)) .nil)))) rfl h0 h1 (Nat.le_max_right 0 (x5 + x6)) h2)
theorem a242 {x0 x1 x2 x3 x4 : Nat}  (h0 : (((x1 + x4) < x3) ∧ (x3 ≤ (x1 + x2)))) (h1 : (x0 < (x1 + (x2 + 1)))) (h2 : (x3 ≤ x0)) : ((x0 - 1) < (x1 + x2)) := (lin [x0, x1, x2, (x0 - 1)] (.cons 1 (.p (.v 0) (.c 1)) (.p (.v 1) (.p (.v 2) (.c 1))) (.cons 1 (.p (.v 3) (.c 1)) (.v 0) .nil)) (.p (.v 3) (.c 1)) (.p (.v 1) (.v 2)) rfl h1 (subE (lin [x1, x4, x3, x0] (.cons 1 (.p (.p (.v 0) (.v 1)) (.c 1)) (.v 2) (.cons 1 (.v 2) (.v 3) .nil)) (.c 1) (.v 3) rfl (And.left h0) h2)))
theorem a243 {x0 x1 : Nat}   : (x0 ≤ (x0 + ((x1 - x0) / 2))) := (lin [x0, ((x1 - x0) / 2)] .nil (.v 0) (.p (.v 0) (.v 1)) rfl )
theorem a244 {x0 x1 x2 x3 x4 : Nat}  (h0 : (((x2 + x4) < x0) ∧ (x0 ≤ (x2 + x3)))) (h1 : (x0 ≤ x1)) (h2 : (x1 < (x2 + (x3 + 1)))) (h3 : (¬ (((x2 + x4) < x1) ∧ (x1 ≤ (x2 + x3))))) (h4 : (¬ (x1 = (x2 + x4)))) : False := (Or.elim (Decidable.not_and_iff_or_not.mp h3) (fun u1 => (linF [x2, x4, x0, x1] (.cons 1 (.p (.p (.v 0) (.v 1)) (.c 1)) (.v 2) (.cons 1 (.v 2) (.v 3) (.cons 1 (.v 3) (.p (.v 0) (.v 1)) .nil))) rfl (And.left h0) h1 (Nat.le_of_not_lt u1))) (fun u2 => (linF [x1, x2, x3] (.cons 1 (.p (.v 0) (.c 1)) (.p (.v 1) (.p (.v 2) (.c 1))) (.cons 1 (.p (.p (.v 1) (.v 2)) (.c 1)) (.v 0) .nil)) rfl h2 (Nat.lt_of_not_le u2))))
theorem a245 {x0 x1 x2 x3 x4 x5 x6 x7 x8 : Nat}  (h0 : ((((x0 + 1) + x5) + x6) ≤ (x3 + x4))) (h1 : (((x7 + x8) + 1) ≤ (x5 + x6))) (h2 : ((x1 + x2) ≤ (x7 + x8))) : (((((x0 + 1) + 1) + x1) + x2) ≤ (x3 + x4)) := (lin [x0, x5, x6, x3, x4, x7, x8, x1, x2] (.cons 1 (.p (.p (.p (.v 0) (.c 1)) (.v 1)) (.v 2)) (.p (.v 3) (.v 4)) (.cons 1 (.p (.p (.v 5) (.v 6)) (.c 1)) (.p (.v 1) (.v 2)) (.cons 1 (.p (.v 7) (.v 8)) (.p (.v 5) (.v 6)) .nil))) (.p (.p (.p (.p (.v 0) (.c 1)) (.c 1)) (.v 7)) (.v 8)) (.p (.v 3) (.v 4)) rfl h0 h1 h2)
theorem a246 {x0 x1 x2 : Nat}  (h0 : (x1 ≤ x2)) (h1 : (¬ (x0 ≥ x1))) : ((x0 + ((x1 - x0) / 2)) ≤ x2) := (lin [x1, x2, ((x1 - x0) / 2), (x1 - x0), x0] (.cons 1 (.v 0) (.v 1) (.cons 1 (.m 2 (.v 2)) (.v 3) (.cons 1 (.p (.v 3) (.v 4)) (.v 0) .nil))) (.p (.v 4) (.v 2)) (.v 1) rfl h0 (halfL (x1 - x0)) (subE (lin [x0, x1] (.cons 1 (.p (.v 0) (.c 1)) (.v 1) .nil) (.v 0) (.v 1) rfl (Nat.lt_of_not_le h1))))
theorem a247 {x0 x1 x2 x3 x4 x5 x6 : Nat}  (h0 : ((x0 + x6) ≤ x5)) (h1 : (x0 = (x2 + x4))) (h2 : (x1 = x5)) (h3 : (¬ (((x4 - x3) == 0) = true))) : (((min x0 x1) - (x2 + x3)) = (x4 - x3)) := (Or.elim (neqC (fun q => h3 (beq_iff_eq.mpr q))) (fun u1 => (Nat.le_antisymm (lin [((min x0 x1) - (x2 + x3)), (x4 - x3)] (.cons 1 (.v 0) (.c 0) .nil) (.v 0) (.v 1) rfl (subZ (lin [x0, x2, x4, (x4 - x3), x3, (min x0 x1)] (.cons 1 (.v 0) (.p (.v 1) (.v 2)) (.cons 1 (.v 2) (.p (.v 3) (.v 4)) (.cons 1 (.v 5) (.v 0) (.cons 1 (.v 3) (.c 0) .nil)))) (.v 5) (.p (.v 1) (.v 4)) rfl (Nat.le_of_eq h1) (subU x4 x3) (Nat.min_le_left x0 x1) (subZ (lin [x4, (x4 - x3), x3] (.cons 1 (.v 0) (.p (.v 1) (.v 2)) (.cons 1 (.p (.v 1) (.c 1)) (.c 0) .nil)) (.v 0) (.v 2) rfl (subU x4 x3) u1))))) (lin [(x4 - x3), ((min x0 x1) - (x2 + x3))] (.cons 1 (.v 0) (.c 0) .nil) (.v 0) (.v 1) rfl (subZ (lin [x4, (x4 - x3), x3] (.cons 1 (.v 0) (.p (.v 1) (.v 2)) (.cons 1 (.p (.v 1) (.c 1)) (.c 0) .nil)) (.v 0) (.v 2) rfl (subU x4 x3) u1))))) (fun u2 => (Or.elim (Nat.le_total x4 x3) (fun u3 => (Nat.le_antisymm (lin [((min x0 x1) - (x2 + x3)), (x4 - x3)] (.cons 1 (.v 0) (.c 0) .nil) (.v 0) (.v 1) rfl (subZ (lin [x0, x2, x4, (min x0 x1), x3] (.cons 1 (.v 0) (.p (.v 1) (.v 2)) (.cons 1 (.v 3) (.v 0) (.cons 1 (.v 2) (.v 4) .nil))) (.v 3) (.p (.v 1) (.v 4)) rfl (Nat.le_of_eq h1) (Nat.min_le_left x0 x1) u3))) (lin [(x4 - x3), ((min x0 x1) - (x2 + x3))] (.cons 1 (.v 0) (.c 0) .nil) (.v 0) (.v 1) rfl (subZ u3)))) (fun u4 => (Nat.le_antisymm (lin [x0, x2, x4, (x4 - x3), x3, (min x0 x1), ((min x0 x1) - (x2 + x3))] (.cons 1 (.v 0) (.p (.v 1) (.v 2)) (.cons 1 (.v 2) (.p (.v 3) (.v 4)) (.cons 1 (.v 5) (.v 0) (.cons 1 (.p (.v 6) (.p (.v 1) (.v 4))) (.v 5) .nil)))) (.v 6) (.v 3) rfl (Nat.le_of_eq h1) (subU x4 x3) (Nat.min_le_left x0 x1) (subE (lin [x2, x4, x0, (x4 - x3), x3, (min x0 x1)] (.cons 1 (.p (.v 0) (.v 1)) (.v 2) (.cons 1 (.p (.v 3) (.v 4)) (.v 1) (.cons 1 (.v 2) (.v 5) .nil))) (.p (.v 0) (.v 4)) (.v 5) rfl (Nat.le_of_eq (Eq.symm h1)) (subE u4) (minA (lin [x0, x6, x5, x1] (.cons 1 (.p (.v 0) (.v 1)) (.v 2) (.cons 1 (.v 2) (.v 3) .nil)) (.v 0) (.v 3) rfl h0 (Nat.le_of_eq (Eq.symm h2))))))) (lin [x2, x4, x0, (min x0 x1), ((min x0 x1) - (x2 + x3)), x3, (x4 - x3)] (.cons 1 (.p (.v 0) (.v 1)) (.v 2) (.cons 1 (.v 3) (.p (.v 4) (.p (.v 0) (.v 5))) (.cons 1 (.p (.v 6) (.v 5)) (.v 1) (.cons 1 (.v 2) (.v 3) .nil)))) (.v 6) (.v 4) rfl (Nat.le_of_eq (Eq.symm h1)) (subU (min x0 x1) (x2 + x3)) (subE u4) (minA (lin [x0, x6, x5, x1] (.cons 1 (.p (.v 0) (.v 1)) (.v 2) (.cons 1 (.v 2) (.v 3) .nil)) (.v 0) (.v 3) rfl h0 (Nat.le_of_eq (Eq.symm h2))))))))))
theorem a248 {x0 x1 x2 x3 x4 : Nat}  (h0 : ((x0 + x3) ≤ x4)) (h1 : (x1 ≤ x3)) (h2 : (x2 = x4)) : (((min (x0 + x1) x2) - x0) = x1) := (Nat.le_antisymm (lin [(min (x0 + x1) x2), x0, x1, ((min (x0 + x1) x2) - x0)] (.cons 1 (.v 0) (.p (.v 1) (.v 2)) (.cons 1 (.p (.v 3) (.v 1)) (.v 0) .nil)) (.v 3) (.v 2) rfl (Nat.min_le_left (x0 + x1) x2) (subE (lin [x0, x1, (min (x0 + x1) x2)] (.cons 1 (.p (.v 0) (.v 1)) (.v 2) .nil) (.v 0) (.v 2) rfl (minA (lin [x0, x3, x4, x1, x2] (.cons 1 (.p (.v 0) (.v 1)) (.v 2) (.cons 1 (.v 3) (.v 1) (.cons 1 (.v 2) (.v 4) .nil))) (.p (.v 0) (.v 3)) (.v 4) rfl h0 h1 (Nat.le_of_eq (Eq.symm h2))))))) (lin [(min (x0 + x1) x2), ((min (x0 + x1) x2) - x0), x0, x1] (.cons 1 (.v 0) (.p (.v 1) (.v 2)) (.cons 1 (.p (.v 2) (.v 3)) (.v 0) .nil)) (.v 3) (.v 1) rfl (subU (min (x0 + x1) x2) x0) (minA (lin [x0, x3, x4, x1, x2] (.cons 1 (.p (.v 0) (.v 1)) (.v 2) (.cons 1 (.v 3) (.v 1) (.cons 1 (.v 2) (.v 4) .nil))) (.p (.v 0) (.v 3)) (.v 4) rfl h0 h1 (Nat.le_of_eq (Eq.symm h2))))))
theorem a249 {x0 x1 x2 x3 : Nat}  (h0 : ((x1 - x0) ≤ (x2 - x3))) (h1 : (x3 < x2)) (h2 : (¬ (x0 ≥ x1))) : (((x0 + ((x1 - x0) / 2)) - x0) ≤ (x2 - (x3 + 1))) := (Nat.le_of_not_lt fun u1 => (linF [x1, (x1 - x0), x0, (x2 - x3), ((x1 - x0) / 2), x2, (x2 - (x3 + 1)), x3, ((x0 + ((x1 - x0) / 2)) - x0)] (.cons 1 (.v 0) (.p (.v 1) (.v 2)) (.cons 2 (.v 1) (.v 3) (.cons 1 (.p (.v 2) (.c 1)) (.v 0) (.cons 1 (.m 2 (.v 4)) (.v 1) (.cons 2 (.v 5) (.p (.v 6) (.p (.v 7) (.c 1))) (.cons 2 (.p (.v 3) (.v 7)) (.v 5) (.cons 2 (.p (.v 8) (.v 2)) (.p (.v 2) (.v 4)) (.cons 2 (.p (.v 6) (.c 1)) (.v 8) .nil)))))))) rfl (subU x1 x0) h0 (Nat.lt_of_not_le h2) (halfL (x1 - x0)) (subU x2 (x3 + 1)) (subE (lin [x3, x2] (.cons 1 (.p (.v 0) (.c 1)) (.v 1) .nil) (.v 0) (.v 1) rfl h1)) (subE (lin [x0, ((x1 - x0) / 2)] .nil (.v 0) (.p (.v 0) (.v 1)) rfl )) u1))
theorem a250 {x0 x1 x2 x3 : Nat}  (h0 : (x0 ≤ x3)) (h1 : (x3 = (x1 + x2))) (h2 : (¬ (x0 = (x1 + x2)))) : (x0 < (x1 + x2)) := (Or.elim (neqC h2) (fun u2 => (lin [x0, x1, x2] (.cons 1 (.p (.v 0) (.c 1)) (.p (.v 1) (.v 2)) .nil) (.p (.v 0) (.c 1)) (.p (.v 1) (.v 2)) rfl u2)) (fun u3 => (lin [x0, x3, x1, x2] (.cons 2 (.v 0) (.v 1) (.cons 2 (.v 1) (.p (.v 2) (.v 3)) (.cons 1 (.p (.p (.v 2) (.v 3)) (.c 1)) (.v 0) .nil))) (.p (.v 0) (.c 1)) (.p (.v 2) (.v 3)) rfl h0 (Nat.le_of_eq h1) u3)))
theorem a251 {x0 x1 : Nat}  (h0 : (x0 ≤ x1)) : ((0 + x0) ≤ x1) := (lin [x0, x1] (.cons 1 (.v 0) (.v 1) .nil) (.p (.c 0) (.v 0)) (.v 1) rfl h0)
theorem a252 {x0 x1 x2 x3 : Nat}  (h0 : ((x0 + x3) ≤ x2)) (h1 : (x1 = x2)) : (x0 ≤ x1) := (lin [x0, x3, x2, x1] (.cons 1 (.p (.v 0) (.v 1)) (.v 2) (.cons 1 (.v 2) (.v 3) .nil)) (.v 0) (.v 3) rfl h0 (Nat.le_of_eq (Eq.symm h1)))
theorem a253 {x0 x1 : Nat}  (h0 : (x0 < x1)) : (((x0 + 1) + (x1 - (x0 + 1))) ≤ x1) := (lin [(x1 - (x0 + 1)), x0, x1] (.cons 1 (.p (.v 0) (.p (.v 1) (.c 1))) (.v 2) .nil) (.p (.p (.v 1) (.c 1)) (.v 0)) (.v 2) rfl (subE (lin [x0, x1] (.cons 1 (.p (.v 0) (.c 1)) (.v 1) .nil) (.p (.v 0) (.c 1)) (.v 1) rfl h0)))
theorem a254 {x0 x1 x2 x3 : Nat}  (h0 : (x0 < (x1 + x3))) (h1 : (x3 ≤ x2)) : (x0 < (x1 + x2)) := (lin [x0, x1, x3, x2] (.cons 1 (.p (.v 0) (.c 1)) (.p (.v 1) (.v 2)) (.cons 1 (.v 2) (.v 3) .nil)) (.p (.v 0) (.c 1)) (.p (.v 1) (.v 3)) rfl h0 h1)
theorem a255 {x0 : Nat}  (h0 : (0 < x0)) : ((x0 - 1) < x0) := (lin [(x0 - 1), x0] (.cons 1 (.p (.v 0) (.c 1)) (.v 1) .nil) (.p (.v 0) (.c 1)) (.v 1) rfl (subE (lin [x0] (.cons 1 (.p (.c 0) (.c 1)) (.v 0) .nil) (.c 1) (.v 0) rfl h0)))
theorem a256 {x0 x1 : Int} (h0 : (¬ (x0 < x1))) (h1 : (¬ (x1 < x0))) : (x0 = x1) := (Int.le_antisymm (Int.not_lt.mp h1) (Int.not_lt.mp h0))
theorem a257 {x0 x1 x2 x3 x4 : Nat}  (h0 : ((x0 + x3) ≤ x4)) (h1 : (x1 ≤ x3)) (h2 : (x2 = x4)) : ((x0 + x1) ≤ x2) := (lin [x0, x3, x4, x1, x2] (.cons 1 (.p (.v 0) (.v 1)) (.v 2) (.cons 1 (.v 3) (.v 1) (.cons 1 (.v 2) (.v 4) .nil))) (.p (.v 0) (.v 3)) (.v 4) rfl h0 h1 (Nat.le_of_eq (Eq.symm h2)))
theorem a258 {x0 x1 x2 x3 x4 : Nat}  (h0 : (x0 ≤ x3)) (h1 : (x3 < (x1 + (x4 + 1)))) (h2 : (¬ (((x1 + x2) < x0) ∧ (x0 ≤ (x1 + x4))))) (h3 : (¬ (x0 = (x1 + x2)))) : (x0 < (x1 + x2)) := (Or.elim (Decidable.not_and_iff_or_not.mp h2) (fun u2 => (Or.elim (neqC h3) (fun u5 => (lin [x0, x1, x2] (.cons 1 (.p (.v 0) (.c 1)) (.p (.v 1) (.v 2)) .nil) (.p (.v 0) (.c 1)) (.p (.v 1) (.v 2)) rfl u5)) (fun u6 => (lin [x0, x1, x2] (.cons 2 (.v 0) (.p (.v 1) (.v 2)) (.cons 1 (.p (.p (.v 1) (.v 2)) (.c 1)) (.v 0) .nil)) (.p (.v 0) (.c 1)) (.p (.v 1) (.v 2)) rfl (Nat.le_of_not_lt u2) u6)))) (fun u3 => (False.elim (linF [x0, x3, x1, x4] (.cons 1 (.v 0) (.v 1) (.cons 1 (.p (.v 1) (.c 1)) (.p (.v 2) (.p (.v 3) (.c 1))) (.cons 1 (.p (.p (.v 2) (.v 3)) (.c 1)) (.v 0) .nil))) rfl h0 h1 (Nat.lt_of_not_le u3)))))
theorem a259 {x0 x1 : Nat}  (h0 : ((x0 + 1) ≤ x1)) : (((x0 + 1) + 1) ≤ (x1 + 1)) := (lin [x0, x1] (.cons 1 (.p (.v 0) (.c 1)) (.v 1) .nil) (.p (.p (.v 0) (.c 1)) (.c 1)) (.p (.v 1) (.c 1)) rfl h0)
theorem a260 {x0 x1 x2 x3 x4 : Nat}  (h0 : ((x0 + x4) ≤ x3)) (h1 : (x1 < x4)) : ((x0 + (x1 - x2)) < x3) := (lin [x0, x4, x3, x1, (x1 - x2)] (.cons 1 (.p (.v 0) (.v 1)) (.v 2) (.cons 1 (.p (.v 3) (.c 1)) (.v 1) (.cons 1 (.v 4) (.v 3) .nil))) (.p (.p (.v 0) (.v 4)) (.c 1)) (.v 2) rfl h0 h1 (Nat.sub_le x1 x2))
theorem a261 {x0 x1 : Nat}  (h0 : (¬ (x0 ≥ (x1 + 1)))) : (x0 ≤ x1) := (lin [x0, x1] (.cons 1 (.p (.v 0) (.c 1)) (.p (.v 1) (.c 1)) .nil) (.v 0) (.v 1) rfl (Nat.lt_of_not_le h0))
theorem a262 {x0 x1 x2 x3 : Nat}  (h0 : (1 ≤ x2)) (h1 : (x0 < x3)) (h2 : (x3 = (x1 + x2))) : ((x0 - x1) < x2) := (Or.elim (Nat.le_total x0 x1) (fun u2 => (lin [x2, (x0 - x1)] (.cons 1 (.c 1) (.v 0) (.cons 1 (.v 1) (.c 0) .nil)) (.p (.v 1) (.c 1)) (.v 0) rfl h0 (subZ u2))) (fun u3 => (lin [x0, x3, x1, x2, (x0 - x1)] (.cons 1 (.p (.v 0) (.c 1)) (.v 1) (.cons 1 (.v 1) (.p (.v 2) (.v 3)) (.cons 1 (.p (.v 4) (.v 2)) (.v 0) .nil))) (.p (.v 4) (.c 1)) (.v 3) rfl h1 (Nat.le_of_eq h2) (subE u3))))
theorem a263 {x0 x1 : Nat}  (h0 : (x1 < x0)) (h1 : (¬ (((x1 + 1) == x0) = true))) : (0 < (x0 - (x1 + 1))) := (Or.elim (neqC (fun q => h1 (beq_iff_eq.mpr q))) (fun u2 => (lin [x0, (x0 - (x1 + 1)), x1] (.cons 1 (.v 0) (.p (.v 1) (.p (.v 2) (.c 1))) (.cons 1 (.p (.p (.v 2) (.c 1)) (.c 1)) (.v 0) .nil)) (.p (.c 0) (.c 1)) (.v 1) rfl (subU x0 (x1 + 1)) u2)) (fun u3 => (lin [(x0 - (x1 + 1)), x1, x0] (.cons 1 (.p (.v 0) (.p (.v 1) (.c 1))) (.v 2) (.cons 1 (.p (.v 2) (.c 1)) (.p (.v 1) (.c 1)) .nil)) (.p (.c 0) (.c 1)) (.v 0) rfl (subE (lin [x1, x0] (.cons 1 (.p (.v 0) (.c 1)) (.v 1) .nil) (.p (.v 0) (.c 1)) (.v 1) rfl h0)) u3)))
theorem a264 {x0 x1 x2 x3 x4 : Nat}  (h0 : (((x2 + x3) < x1) ∧ (x1 ≤ (x2 + x4)))) (h1 : (x0 ≤ x1)) (h2 : (¬ (((x2 + x3) < x0) ∧ (x0 ≤ (x2 + x4))))) (h3 : (¬ (x0 = (x2 + x3)))) : (x0 ≤ (x1 - 1)) := (Or.elim (Decidable.not_and_iff_or_not.mp h2) (fun u2 => (lin [x2, x3, x1, (x1 - 1), x0] (.cons 1 (.p (.p (.v 0) (.v 1)) (.c 1)) (.v 2) (.cons 1 (.v 2) (.p (.v 3) (.c 1)) (.cons 1 (.v 4) (.p (.v 0) (.v 1)) .nil))) (.v 4) (.v 3) rfl (And.left h0) (subU x1 1) (Nat.le_of_not_lt u2))) (fun u3 => (lin [x1, x2, x4, x0, (x1 - 1)] (.cons 1 (.v 0) (.p (.v 1) (.v 2)) (.cons 2 (.v 3) (.v 0) (.cons 1 (.v 0) (.p (.v 4) (.c 1)) (.cons 1 (.p (.p (.v 1) (.v 2)) (.c 1)) (.v 3) .nil)))) (.v 3) (.v 4) rfl (And.right h0) h1 (subU x1 1) (Nat.lt_of_not_le u3))))
theorem a265 {x0 x1 x2 : Int} (h0 : (x0 ≤ x2)) (h1 : (¬ (x1 < (x2 + (1 : Int))))) : (x0 ≤ x1) := (Int.le_of_lt (Int.lt_of_le_of_lt h0 (Int.lt_of_add_one_le (Int.not_lt.mp h1))))
theorem a266 {x0 x1 x2 x3 : Nat}  (h0 : (((x1 + x3) < x0) ∧ (x0 ≤ (x1 + x2)))) : ((x0 - 1) < (x1 + x2)) := (lin [x0, x1, x2, (x0 - 1)] (.cons 1 (.v 0) (.p (.v 1) (.v 2)) (.cons 1 (.p (.v 3) (.c 1)) (.v 0) .nil)) (.p (.v 3) (.c 1)) (.p (.v 1) (.v 2)) rfl (And.right h0) (subE (lin [x1, x3, x0] (.cons 1 (.p (.p (.v 0) (.v 1)) (.c 1)) (.v 2) .nil) (.c 1) (.v 2) rfl (And.left h0))))
theorem a267 {x0 x1 x2 : Nat}  (h0 : (((max 0 x2) + 1) ≤ x1)) (h1 : (x0 < x2)) : ((x0 + 1) ≤ x1) := (lin [x2, (max 0 x2), x1, x0] (.cons 1 (.v 0) (.v 1) (.cons 1 (.p (.v 1) (.c 1)) (.v 2) (.cons 1 (.p (.v 3) (.c 1)) (.v 0) .nil))) (.p (.v 3) (.c 1)) (.v 2) rfl (Nat.le_max_right 0 x2) h0 h1)
theorem a268 {x0 x1 : Nat}   : (((x0 + (x1 + 1)) - 1) = (x0 + x1)) := (Nat.le_antisymm (lin [((x0 + (x1 + 1)) - 1), x0, x1] (.cons 1 (.p (.v 0) (.c 1)) (.p (.v 1) (.p (.v 2) (.c 1))) .nil) (.v 0) (.p (.v 1) (.v 2)) rfl (subE (lin [x0, x1] .nil (.c 1) (.p (.v 0) (.p (.v 1) (.c 1))) rfl ))) (lin [x0, x1, ((x0 + (x1 + 1)) - 1)] (.cons 1 (.p (.v 0) (.p (.v 1) (.c 1))) (.p (.v 2) (.c 1)) .nil) (.p (.v 0) (.v 1)) (.v 2) rfl (subU (x0 + (x1 + 1)) 1)))
theorem a269 {x0 x1 x2 x3 : Nat}  (h0 : (((x0 + (x1 + 1)) - ((x2 + 1) + 1)) ≤ x3)) : (((x0 + x1) - (x2 + 1)) ≤ x3) := (Or.elim (Nat.le_total (x0 + (x1 + 1)) ((x2 + 1) + 1)) (fun u2 => (lin [((x0 + x1) - (x2 + 1)), x3] (.cons 1 (.v 0) (.c 0) .nil) (.v 0) (.v 1) rfl (subZ (lin [x0, x1, x2] (.cons 1 (.p (.v 0) (.p (.v 1) (.c 1))) (.p (.p (.v 2) (.c 1)) (.c 1)) .nil) (.p (.v 0) (.v 1)) (.p (.v 2) (.c 1)) rfl u2)))) (fun u3 => (lin [x0, x1, ((x0 + (x1 + 1)) - ((x2 + 1) + 1)), x2, x3, ((x0 + x1) - (x2 + 1))] (.cons 1 (.p (.v 0) (.p (.v 1) (.c 1))) (.p (.v 2) (.p (.p (.v 3) (.c 1)) (.c 1))) (.cons 1 (.v 2) (.v 4) (.cons 1 (.p (.v 5) (.p (.v 3) (.c 1))) (.p (.v 0) (.v 1)) .nil))) (.v 5) (.v 4) rfl (subU (x0 + (x1 + 1)) ((x2 + 1) + 1)) h0 (subE (lin [((x0 + (x1 + 1)) - ((x2 + 1) + 1)), x2, x0, x1] (.cons 1 (.p (.v 0) (.p (.p (.v 1) (.c 1)) (.c 1))) (.p (.v 2) (.p (.v 3) (.c 1))) .nil) (.p (.v 1) (.c 1)) (.p (.v 2) (.v 3)) rfl (subE u3))))))
theorem a270 {x0 x1 : Int} (h0 : (x0 < (x1 + (1 : Int)))) : (x0 ≤ x1) := (Int.le_of_lt_add_one h0)
theorem a271 {x0 x1 x2 : Nat}  (h0 : ((x0 + 1) ≤ x1)) (h1 : (x2 < ((x0 + 1) - (min x1 (x0 + 1))))) : False := (linF [x2, ((x0 + 1) - (min x1 (x0 + 1))), (min x1 (x0 + 1)), x0] (.cons 1 (.p (.v 0) (.c 1)) (.v 1) (.cons 1 (.p (.v 1) (.v 2)) (.p (.v 3) (.c 1)) (.cons 1 (.p (.v 3) (.c 1)) (.v 2) .nil))) rfl h1 (subE (lin [(min x1 (x0 + 1)), x0] (.cons 1 (.v 0) (.p (.v 1) (.c 1)) .nil) (.v 0) (.p (.v 1) (.c 1)) rfl (Nat.min_le_right x1 (x0 + 1)))) (minB (lin [x0, x1] (.cons 1 (.p (.v 0) (.c 1)) (.v 1) .nil) (.p (.v 0) (.c 1)) (.v 1) rfl h0)))
theorem a272 {x0 x1 x2 : Nat}  (h0 : (x0 < ((x1 + 1) - (min x2 (x1 + 1))))) (h1 : (x2 ≤ x1)) : (x0 ≤ (x1 - x2)) := (lin [x0, ((x1 + 1) - (min x2 (x1 + 1))), x1, (x1 - x2), x2, (min x2 (x1 + 1))] (.cons 1 (.p (.v 0) (.c 1)) (.v 1) (.cons 1 (.v 2) (.p (.v 3) (.v 4)) (.cons 1 (.p (.v 1) (.v 5)) (.p (.v 2) (.c 1)) (.cons 1 (.v 4) (.v 5) .nil)))) (.v 0) (.v 3) rfl h0 (subU x1 x2) (subE (lin [(min x2 (x1 + 1)), x1] (.cons 1 (.v 0) (.p (.v 1) (.c 1)) .nil) (.v 0) (.p (.v 1) (.c 1)) rfl (Nat.min_le_right x2 (x1 + 1)))) (minA (lin [x2, x1] (.cons 1 (.v 0) (.v 1) .nil) (.v 0) (.p (.v 1) (.c 1)) rfl h1)))
theorem a273 {x0 x1 x2 : Nat}  (h0 : (x0 = (max (x2 + 1) x1))) (h1 : (x2 ≤ x1)) (h2 : (¬ ((x2 == x1) = true))) : (x0 = x1) := (Or.elim (neqC (fun q => h2 (beq_iff_eq.mpr q))) (fun u1 => (Nat.le_antisymm (lin [x0, (max (x2 + 1) x1), x1] (.cons 1 (.v 0) (.v 1) (.cons 1 (.v 1) (.v 2) .nil)) (.v 0) (.v 2) rfl (Nat.le_of_eq h0) (maxB (lin [x2, x1] (.cons 1 (.p (.v 0) (.c 1)) (.v 1) .nil) (.p (.v 0) (.c 1)) (.v 1) rfl u1))) (lin [x1, (max (x2 + 1) x1), x0] (.cons 1 (.v 0) (.v 1) (.cons 1 (.v 1) (.v 2) .nil)) (.v 0) (.v 2) rfl (Nat.le_max_right (x2 + 1) x1) (Nat.le_of_eq (Eq.symm h0))))) (fun u2 => (Nat.le_antisymm (lin [x0, (max (x2 + 1) x1), x1] (.cons 1 (.v 0) (.v 1) (.cons 1 (.v 1) (.v 2) .nil)) (.v 0) (.v 2) rfl (Nat.le_of_eq h0) (maxB (lin [x2, x1] (.cons 2 (.v 0) (.v 1) (.cons 1 (.p (.v 1) (.c 1)) (.v 0) .nil)) (.p (.v 0) (.c 1)) (.v 1) rfl h1 u2))) (lin [x1, (max (x2 + 1) x1), x0] (.cons 1 (.v 0) (.v 1) (.cons 1 (.v 1) (.v 2) .nil)) (.v 0) (.v 2) rfl (Nat.le_max_right (x2 + 1) x1) (Nat.le_of_eq (Eq.symm h0))))))
theorem a274 {x0 x1 x2 : Nat}  (h0 : (x0 < x2)) : ((x0 - x1) < x2) := (lin [x0, x2, (x0 - x1)] (.cons 1 (.p (.v 0) (.c 1)) (.v 1) (.cons 1 (.v 2) (.v 0) .nil)) (.p (.v 2) (.c 1)) (.v 1) rfl h0 (Nat.sub_le x0 x1))
theorem a275 {x0 x1 x2 : Nat}  (h0 : (x0 ≤ x2)) (h1 : (x1 = x2)) (h2 : (¬ ((x0 == x2) = true))) : ((x0 + 1) ≤ x1) := (Or.elim (neqC (fun q => h2 (beq_iff_eq.mpr q))) (fun u2 => (lin [x2, x1, x0] (.cons 1 (.v 0) (.v 1) (.cons 1 (.p (.v 2) (.c 1)) (.v 0) .nil)) (.p (.v 2) (.c 1)) (.v 1) rfl (Nat.le_of_eq (Eq.symm h1)) u2)) (fun u3 => (lin [x0, x2, x1] (.cons 2 (.v 0) (.v 1) (.cons 1 (.v 1) (.v 2) (.cons 1 (.p (.v 1) (.c 1)) (.v 0) .nil))) (.p (.v 0) (.c 1)) (.v 2) rfl h0 (Nat.le_of_eq (Eq.symm h1)) u3)))
theorem a276 {x0 x1 x2 x3 : Int} (h0 : (x1 ≤ x3)) (h1 : (x3 = x2)) (h2 : (¬ (x1 < (x0 + (1 : Int))))) : (((x0 + (1 : Int)) ≤ x1) ∧ (x1 ≤ x2)) := (And.intro (Int.add_one_le_of_lt (Int.lt_of_add_one_le (Int.not_lt.mp h2))) (Int.le_trans h0 (Int.le_of_eq h1)))
theorem a277 {x0 x1 x2 x3 x4 : Nat}  (h0 : (x0 ≤ x3)) (h1 : (x3 < (x1 + (x4 + 1)))) (h2 : (¬ (((x1 + x2) < x3) ∧ (x3 ≤ (x1 + x4))))) (h3 : (¬ (x0 = (x1 + x2)))) (h4 : (¬ (x3 = (x1 + x2)))) : (x0 < (x1 + x2)) := (Or.elim (Decidable.not_and_iff_or_not.mp h2) (fun u2 => (Or.elim (neqC h3) (fun u5 => (lin [x0, x1, x2] (.cons 1 (.p (.v 0) (.c 1)) (.p (.v 1) (.v 2)) .nil) (.p (.v 0) (.c 1)) (.p (.v 1) (.v 2)) rfl u5)) (fun u6 => (lin [x0, x3, x1, x2] (.cons 2 (.v 0) (.v 1) (.cons 2 (.v 1) (.p (.v 2) (.v 3)) (.cons 1 (.p (.p (.v 2) (.v 3)) (.c 1)) (.v 0) .nil))) (.p (.v 0) (.c 1)) (.p (.v 2) (.v 3)) rfl h0 (Nat.le_of_not_lt u2) u6)))) (fun u3 => (False.elim (linF [x3, x1, x4] (.cons 1 (.p (.v 0) (.c 1)) (.p (.v 1) (.p (.v 2) (.c 1))) (.cons 1 (.p (.p (.v 1) (.v 2)) (.c 1)) (.v 0) .nil)) rfl h1 (Nat.lt_of_not_le u3)))))
theorem a278 {x0 x1 x2 : Nat}  (h0 : (x0 < (x1 + x2))) (h1 : (¬ ((x2 == 0) = true))) : ((x0 - x1) < x2) := (Or.elim (neqC (fun q => h1 (beq_iff_eq.mpr q))) (fun u2 => (lin [x2, (x0 - x1)] (.cons 1 (.p (.v 0) (.c 1)) (.c 0) (.cons 1 (.v 1) (.c 0) .nil)) (.p (.v 1) (.c 1)) (.v 0) rfl u2 (subZ (lin [x0, x1, x2] (.cons 1 (.p (.v 0) (.c 1)) (.p (.v 1) (.v 2)) (.cons 1 (.p (.v 2) (.c 1)) (.c 0) .nil)) (.v 0) (.v 1) rfl h0 u2)))) (fun u3 => (Or.elim (Nat.le_total x0 x1) (fun u5 => (lin [x2, (x0 - x1)] (.cons 1 (.p (.c 0) (.c 1)) (.v 0) (.cons 1 (.v 1) (.c 0) .nil)) (.p (.v 1) (.c 1)) (.v 0) rfl u3 (subZ u5))) (fun u6 => (lin [x0, x1, x2, (x0 - x1)] (.cons 1 (.p (.v 0) (.c 1)) (.p (.v 1) (.v 2)) (.cons 1 (.p (.v 3) (.v 1)) (.v 0) .nil)) (.p (.v 3) (.c 1)) (.v 2) rfl h0 (subE u6))))))
theorem a279 {x0 x1 x2 : Nat} {x3 x4 : Int} (h0 : (((x0 + 1) ≤ x1) ∨ ((x1 ≤ x0) ∧ (x3 < x4)))) (h1 : (x2 < x1)) : (((x0 + 1) - (min x1 (x0 + 1))) ≤ (x0 - x2)) := (Or.elim h0 (fun u2 => (lin [((x0 + 1) - (min x1 (x0 + 1))), (min x1 (x0 + 1)), x0, (x0 - x2)] (.cons 1 (.p (.v 0) (.v 1)) (.p (.v 2) (.c 1)) (.cons 1 (.p (.v 2) (.c 1)) (.v 1) .nil)) (.v 0) (.v 3) rfl (subE (lin [(min x1 (x0 + 1)), x0] (.cons 1 (.v 0) (.p (.v 1) (.c 1)) .nil) (.v 0) (.p (.v 1) (.c 1)) rfl (Nat.min_le_right x1 (x0 + 1)))) (minB (lin [x0, x1] (.cons 1 (.p (.v 0) (.c 1)) (.v 1) .nil) (.p (.v 0) (.c 1)) (.v 1) rfl u2)))) (fun u3 => (lin [x2, x1, x0, (x0 - x2), ((x0 + 1) - (min x1 (x0 + 1))), (min x1 (x0 + 1))] (.cons 1 (.p (.v 0) (.c 1)) (.v 1) (.cons 1 (.v 2) (.p (.v 3) (.v 0)) (.cons 1 (.p (.v 4) (.v 5)) (.p (.v 2) (.c 1)) (.cons 1 (.v 1) (.v 5) .nil)))) (.v 4) (.v 3) rfl h1 (subU x0 x2) (subE (lin [(min x1 (x0 + 1)), x0] (.cons 1 (.v 0) (.p (.v 1) (.c 1)) .nil) (.v 0) (.p (.v 1) (.c 1)) rfl (Nat.min_le_right x1 (x0 + 1)))) (minA (lin [x1, x0] (.cons 1 (.v 0) (.v 1) .nil) (.v 0) (.p (.v 1) (.c 1)) rfl (And.left u3))))))
theorem a280 {x0 x1 x2 : Nat}  (h0 : (x0 < x2)) : ((x0 - x1) ≤ x2) := (lin [x0, x2, (x0 - x1)] (.cons 1 (.p (.v 0) (.c 1)) (.v 1) (.cons 1 (.v 2) (.v 0) .nil)) (.v 2) (.v 1) rfl h0 (Nat.sub_le x0 x1))
theorem a281 {x0 x1 x2 x3 : Nat}  (h0 : (x0 < x3)) : (((x0 - x1) - ((x0 + 1) - (min x2 (x0 + 1)))) ≤ (x3 - 0)) := (lin [x0, x3, ((x0 - x1) - ((x0 + 1) - (min x2 (x0 + 1)))), (x0 - x1), (x3 - 0)] (.cons 1 (.p (.v 0) (.c 1)) (.v 1) (.cons 1 (.v 2) (.v 3) (.cons 1 (.v 3) (.v 0) (.cons 1 (.v 1) (.p (.v 4) (.c 0)) .nil)))) (.v 2) (.v 4) rfl h0 (Nat.sub_le (x0 - x1) ((x0 + 1) - (min x2 (x0 + 1)))) (Nat.sub_le x0 x1) (subU x3 0))
theorem a282 {x0 x1 x2 x3 : Nat}  (h0 : (x0 < (x1 + (x2 + 1)))) (h1 : (x3 ≤ x2)) (h2 : (¬ (((x1 + x3) < x0) ∧ (x0 ≤ (x1 + x2))))) (h3 : (¬ (x0 = (x1 + x3)))) : (x0 < (x1 + x2)) := (Or.elim (Decidable.not_and_iff_or_not.mp h2) (fun u2 => (Or.elim (neqC h3) (fun u5 => (lin [x3, x2, x0, x1] (.cons 1 (.v 0) (.v 1) (.cons 1 (.p (.v 2) (.c 1)) (.p (.v 3) (.v 0)) .nil)) (.p (.v 2) (.c 1)) (.p (.v 3) (.v 1)) rfl h1 u5)) (fun u6 => (lin [x0, x1, x2, x3] (.cons 1 (.p (.v 0) (.c 1)) (.p (.v 1) (.p (.v 2) (.c 1))) (.cons 1 (.v 0) (.p (.v 1) (.v 3)) (.cons 1 (.p (.p (.v 1) (.v 3)) (.c 1)) (.v 0) .nil))) (.p (.v 0) (.c 1)) (.p (.v 1) (.v 2)) rfl h0 (Nat.le_of_not_lt u2) u6)))) (fun u3 => (lin [x0, x1, x2] (.cons 2 (.p (.v 0) (.c 1)) (.p (.v 1) (.p (.v 2) (.c 1))) (.cons 1 (.p (.p (.v 1) (.v 2)) (.c 1)) (.v 0) .nil)) (.p (.v 0) (.c 1)) (.p (.v 1) (.v 2)) rfl h0 (Nat.lt_of_not_le u3))))
theorem a283 {x0 x1 x2 : Nat}  (h0 : (0 < x0)) (h1 : (x0 ≤ x2)) (h2 : (x2 ≤ x1)) : ((x0 - 1) < x1) := (lin [x0, x2, x1, (x0 - 1)] (.cons 1 (.v 0) (.v 1) (.cons 1 (.v 1) (.v 2) (.cons 1 (.p (.v 3) (.c 1)) (.v 0) .nil))) (.p (.v 3) (.c 1)) (.v 2) rfl h1 h2 (subE (lin [x0] (.cons 1 (.p (.c 0) (.c 1)) (.v 0) .nil) (.c 1) (.v 0) rfl h0)))
theorem a284 {x0 x1 x2 x3 : Int} (h0 : (x1 < x2)) (h1 : (x3 = x0)) (h2 : (x3 ≤ x1)) : ((x0 ≤ x1) ∧ (x1 < x2)) := (And.intro (Int.le_trans (Int.le_of_eq (Eq.symm h1)) h2) h0)
theorem a285 {x0 x1 : Nat}  (h0 : (1 < x0)) (h1 : (x0 ≤ x1)) : ((0 + (x0 - 1)) ≤ x1) := (lin [x0, x1, (x0 - 1)] (.cons 1 (.v 0) (.v 1) (.cons 1 (.p (.v 2) (.c 1)) (.v 0) .nil)) (.p (.c 0) (.v 2)) (.v 1) rfl h1 (subE (lin [x0] (.cons 1 (.p (.c 1) (.c 1)) (.v 0) .nil) (.c 1) (.v 0) rfl h0)))
theorem a287 {x0 : Nat}  (h0 : (x0 < 1)) : (x0 = 0) := (Nat.le_antisymm (lin [x0] (.cons 1 (.p (.v 0) (.c 1)) (.c 1) .nil) (.v 0) (.c 0) rfl h0) (lin [x0] .nil (.c 0) (.v 0) rfl ))
theorem a288 {x0 x1 x2 x3 : Nat}  (h0 : (x0 ≤ x1)) (h1 : (x1 ≤ x3)) (h2 : (x3 < (x0 + x2))) : ((x0 ≤ x1) ∧ (x1 < (x0 + x2))) := (And.intro (lin [x0, x1] (.cons 1 (.v 0) (.v 1) .nil) (.v 0) (.v 1) rfl h0) (lin [x1, x3, x0, x2] (.cons 1 (.v 0) (.v 1) (.cons 1 (.p (.v 1) (.c 1)) (.p (.v 2) (.v 3)) .nil)) (.p (.v 0) (.c 1)) (.p (.v 2) (.v 3)) rfl h1 h2))
theorem a289 {x0 x1 x2 x3 : Nat}  (h0 : (x0 ≤ x3)) (h1 : (x1 < (x0 + x2))) (h2 : (x3 ≤ x1)) : ((x0 ≤ x1) ∧ (x1 < (x0 + x2))) := (And.intro (lin [x0, x3, x1] (.cons 1 (.v 0) (.v 1) (.cons 1 (.v 1) (.v 2) .nil)) (.v 0) (.v 2) rfl h0 h2) (lin [x1, x0, x2] (.cons 1 (.p (.v 0) (.c 1)) (.p (.v 1) (.v 2)) .nil) (.p (.v 0) (.c 1)) (.p (.v 1) (.v 2)) rfl h1))
theorem a291 {x0 x1 x2 x3 x4 x5 x6 : Nat}  (h0 : (((x0 + x1) + x2) ≤ (x6 + x5))) (h1 : ((x5 + 1) ≤ x4)) (h2 : (x6 ≤ x3)) : (((x0 + x1) + (x2 + 1)) ≤ ((x3 + 1) + x4)) := (lin [x0, x1, x2, x6, x5, x4, x3] (.cons 1 (.p (.p (.v 0) (.v 1)) (.v 2)) (.p (.v 3) (.v 4)) (.cons 1 (.p (.v 4) (.c 1)) (.v 5) (.cons 1 (.v 3) (.v 6) .nil))) (.p (.p (.v 0) (.v 1)) (.p (.v 2) (.c 1))) (.p (.p (.v 6) (.c 1)) (.v 5)) rfl h0 h1 h2)
theorem a292 {x0 : Nat}  (h0 : (1 < x0)) : (((x0 - 1) - 1) < (x0 - 1)) := (lin [((x0 - 1) - 1), (x0 - 1)] (.cons 1 (.p (.v 0) (.c 1)) (.v 1) .nil) (.p (.v 0) (.c 1)) (.v 1) rfl (subE (lin [x0, (x0 - 1)] (.cons 1 (.p (.c 1) (.c 1)) (.v 0) (.cons 1 (.v 0) (.p (.v 1) (.c 1)) .nil)) (.c 1) (.v 1) rfl h0 (subU x0 1))))
theorem a293 {x0 x1 x2 : Nat}  (h0 : (x2 < (x0 + x1))) : (x0 ≤ (((x0 + (x0 + x1)) - 1) - x2)) := (lin [x2, x0, x1, ((x0 + (x0 + x1)) - 1), (((x0 + (x0 + x1)) - 1) - x2)] (.cons 1 (.p (.v 0) (.c 1)) (.p (.v 1) (.v 2)) (.cons 1 (.v 3) (.p (.v 4) (.v 0)) (.cons 1 (.p (.v 1) (.p (.v 1) (.v 2))) (.p (.v 3) (.c 1)) .nil))) (.v 1) (.v 4) rfl h0 (subU ((x0 + (x0 + x1)) - 1) x2) (subU (x0 + (x0 + x1)) 1))
theorem a294 {x0 x1 x2 x3 : Nat}  (h0 : (x2 < (x0 + x1))) (h1 : (x3 ≤ x2)) : ((((x0 + (x0 + x1)) - 1) - x2) ≤ (((x0 + (x0 + x1)) - 1) - x3)) := (lin [x3, x2, ((x0 + (x0 + x1)) - 1), (((x0 + (x0 + x1)) - 1) - x3), (((x0 + (x0 + x1)) - 1) - x2)] (.cons 1 (.v 0) (.v 1) (.cons 1 (.v 2) (.p (.v 3) (.v 0)) (.cons 1 (.p (.v 4) (.v 1)) (.v 2) .nil))) (.v 4) (.v 3) rfl h1 (subU ((x0 + (x0 + x1)) - 1) x3) (subE (lin [x2, x0, x1, ((x0 + (x0 + x1)) - 1)] (.cons 1 (.p (.v 0) (.c 1)) (.p (.v 1) (.v 2)) (.cons 1 (.p (.v 1) (.p (.v 1) (.v 2))) (.p (.v 3) (.c 1)) .nil)) (.v 0) (.v 3) rfl h0 (subU (x0 + (x0 + x1)) 1))))
theorem a295 {x0 x1 x2 x3 : Nat}  (h0 : ((x3 + 1) ≤ x1)) (h1 : (x0 ≤ x2)) : ((((x0 + (x0 + x1)) - 1) - x2) < (x0 + x1)) := (Or.elim (Nat.le_total ((x0 + (x0 + x1)) - 1) x2) (fun u2 => (lin [x3, x1, (((x0 + (x0 + x1)) - 1) - x2), x0] (.cons 1 (.p (.v 0) (.c 1)) (.v 1) (.cons 1 (.v 2) (.c 0) .nil)) (.p (.v 2) (.c 1)) (.p (.v 3) (.v 1)) rfl h0 (subZ u2))) (fun u3 => (lin [x0, x2, ((x0 + (x0 + x1)) - 1), x1, (((x0 + (x0 + x1)) - 1) - x2)] (.cons 1 (.v 0) (.v 1) (.cons 1 (.p (.v 2) (.c 1)) (.p (.v 0) (.p (.v 0) (.v 3))) (.cons 1 (.p (.v 4) (.v 1)) (.v 2) .nil))) (.p (.v 4) (.c 1)) (.p (.v 0) (.v 3)) rfl h1 (subE (lin [x3, x1, x0] (.cons 1 (.p (.v 0) (.c 1)) (.v 1) .nil) (.c 1) (.p (.v 2) (.p (.v 2) (.v 1))) rfl h0)) (subE u3))))
theorem a297 {x0 x1 x2 x3 x4 x5 : Nat}  (h0 : (((x2 - 1) + x3) < x2)) (h1 : (x2 = (x5 - x1))) (h2 : (x4 = (x0 + x5))) (h3 : (¬ (((x5 - x1) == 0) = true))) : (((x0 + x1) + ((x2 - 1) + x3)) = (x4 - 1)) := (Or.elim (neqC (fun q => h3 (beq_iff_eq.mpr q))) (fun u1 => (Nat.le_antisymm (False.elim (linF [(x5 - x1)] (.cons 1 (.p (.v 0) (.c 1)) (.c 0) .nil) rfl u1)) (lin [x5, (x5 - x1), x1, x4, x0, (x4 - 1), (x2 - 1), x3] (.cons 1 (.v 0) (.p (.v 1) (.v 2)) (.cons 1 (.v 3) (.p (.v 4) (.v 0)) (.cons 1 (.v 1) (.c 0) (.cons 1 (.p (.v 5) (.c 1)) (.v 3) .nil)))) (.v 5) (.p (.p (.v 4) (.v 2)) (.p (.v 6) (.v 7))) rfl (subU x5 x1) (Nat.le_of_eq h2) (subZ (lin [x5, (x5 - x1), x1] (.cons 1 (.v 0) (.p (.v 1) (.v 2)) (.cons 1 (.p (.v 1) (.c 1)) (.c 0) .nil)) (.v 0) (.v 2) rfl (subU x5 x1) u1)) (subE (lin [(x5 - x1), x4] (.cons 1 (.p (.v 0) (.c 1)) (.c 0) .nil) (.c 1) (.v 1) rfl u1))))) (fun u2 => (Or.elim (Nat.le_total x2 1) (fun u3 => (Or.elim (Nat.le_total x5 x1) (fun u5 => (Nat.le_antisymm (False.elim (linF [(x5 - x1)] (.cons 1 (.p (.c 0) (.c 1)) (.v 0) (.cons 1 (.v 0) (.c 0) .nil)) rfl u2 (subZ u5))) (lin [x4, x0, x5, x1, (x4 - 1), (x2 - 1), x3] (.cons 1 (.v 0) (.p (.v 1) (.v 2)) (.cons 1 (.v 2) (.v 3) (.cons 1 (.p (.v 4) (.c 1)) (.v 0) .nil))) (.v 4) (.p (.p (.v 1) (.v 3)) (.p (.v 5) (.v 6))) rfl (Nat.le_of_eq h2) u5 (subE (lin [(x5 - x1), x4] (.cons 1 (.p (.c 0) (.c 1)) (.v 0) (.cons 1 (.v 0) (.c 0) .nil)) (.c 1) (.v 1) rfl u2 (subZ u5)))))) (fun u6 => (Or.elim (Nat.le_total x4 1) (fun u7 => (Nat.le_antisymm (Nat.le_of_not_lt fun u9 => (linF [(x2 - 1), x3, x2, (x5 - x1), x0, x5, x4, (x4 - 1), x1] (.cons 1 (.p (.p (.v 0) (.v 1)) (.c 1)) (.v 2) (.cons 1 (.v 2) (.v 3) (.cons 1 (.p (.v 4) (.v 5)) (.v 6) (.cons 1 (.v 6) (.p (.v 7) (.c 1)) (.cons 1 (.p (.v 3) (.v 8)) (.v 5) (.cons 1 (.p (.v 7) (.c 1)) (.p (.p (.v 4) (.v 8)) (.p (.v 0) (.v 1))) .nil)))))) rfl h0 (Nat.le_of_eq h1) (Nat.le_of_eq (Eq.symm h2)) (subU x4 1) (subE u6) u9)) (lin [(x4 - 1), x0, x1, (x2 - 1), x3] (.cons 1 (.v 0) (.c 0) .nil) (.v 0) (.p (.p (.v 1) (.v 2)) (.p (.v 3) (.v 4))) rfl (subZ u7)))) (fun u8 => (Nat.le_antisymm (Nat.le_of_not_lt fun u10 => (linF [(x2 - 1), x3, x2, (x5 - x1), x0, x5, x4, (x4 - 1), x1] (.cons 1 (.p (.p (.v 0) (.v 1)) (.c 1)) (.v 2) (.cons 1 (.v 2) (.v 3) (.cons 1 (.p (.v 4) (.v 5)) (.v 6) (.cons 1 (.v 6) (.p (.v 7) (.c 1)) (.cons 1 (.p (.v 3) (.v 8)) (.v 5) (.cons 1 (.p (.v 7) (.c 1)) (.p (.p (.v 4) (.v 8)) (.p (.v 0) (.v 1))) .nil)))))) rfl h0 (Nat.le_of_eq h1) (Nat.le_of_eq (Eq.symm h2)) (subU x4 1) (subE u6) u10)) (Nat.le_of_not_lt fun u11 => (linF [x2, (x2 - 1), x5, (x5 - x1), x1, x4, x0, (x4 - 1), x3] (.cons 1 (.v 0) (.p (.v 1) (.c 1)) (.cons 1 (.v 2) (.p (.v 3) (.v 4)) (.cons 1 (.v 3) (.v 0) (.cons 1 (.v 5) (.p (.v 6) (.v 2)) (.cons 1 (.p (.v 7) (.c 1)) (.v 5) (.cons 1 (.p (.p (.p (.v 6) (.v 4)) (.p (.v 1) (.v 8))) (.c 1)) (.v 7) .nil)))))) rfl (subU x2 1) (subU x5 x1) (Nat.le_of_eq (Eq.symm h1)) (Nat.le_of_eq h2) (subE u8) u11)))))))) (fun u4 => (Or.elim (Nat.le_total x5 x1) (fun u12 => (Nat.le_antisymm (False.elim (linF [(x5 - x1)] (.cons 1 (.p (.c 0) (.c 1)) (.v 0) (.cons 1 (.v 0) (.c 0) .nil)) rfl u2 (subZ u12))) (lin [x4, x0, x5, x1, (x4 - 1), (x2 - 1), x3] (.cons 1 (.v 0) (.p (.v 1) (.v 2)) (.cons 1 (.v 2) (.v 3) (.cons 1 (.p (.v 4) (.c 1)) (.v 0) .nil))) (.v 4) (.p (.p (.v 1) (.v 3)) (.p (.v 5) (.v 6))) rfl (Nat.le_of_eq h2) u12 (subE (lin [(x5 - x1), x4] (.cons 1 (.p (.c 0) (.c 1)) (.v 0) (.cons 1 (.v 0) (.c 0) .nil)) (.c 1) (.v 1) rfl u2 (subZ u12)))))) (fun u13 => (Or.elim (Nat.le_total x4 1) (fun u14 => (Nat.le_antisymm (Nat.le_of_not_lt fun u16 => (linF [(x2 - 1), x3, x2, (x5 - x1), x0, x5, x4, (x4 - 1), x1] (.cons 1 (.p (.p (.v 0) (.v 1)) (.c 1)) (.v 2) (.cons 1 (.v 2) (.v 3) (.cons 1 (.p (.v 4) (.v 5)) (.v 6) (.cons 1 (.v 6) (.p (.v 7) (.c 1)) (.cons 1 (.p (.v 3) (.v 8)) (.v 5) (.cons 1 (.p (.v 7) (.c 1)) (.p (.p (.v 4) (.v 8)) (.p (.v 0) (.v 1))) .nil)))))) rfl h0 (Nat.le_of_eq h1) (Nat.le_of_eq (Eq.symm h2)) (subU x4 1) (subE u13) u16)) (lin [(x4 - 1), x0, x1, (x2 - 1), x3] (.cons 1 (.v 0) (.c 0) .nil) (.v 0) (.p (.p (.v 1) (.v 2)) (.p (.v 3) (.v 4))) rfl (subZ u14)))) (fun u15 => (Nat.le_antisymm (Nat.le_of_not_lt fun u17 => (linF [(x2 - 1), x3, x2, (x5 - x1), x0, x5, x4, (x4 - 1), x1] (.cons 1 (.p (.p (.v 0) (.v 1)) (.c 1)) (.v 2) (.cons 1 (.v 2) (.v 3) (.cons 1 (.p (.v 4) (.v 5)) (.v 6) (.cons 1 (.v 6) (.p (.v 7) (.c 1)) (.cons 1 (.p (.v 3) (.v 8)) (.v 5) (.cons 1 (.p (.v 7) (.c 1)) (.p (.p (.v 4) (.v 8)) (.p (.v 0) (.v 1))) .nil)))))) rfl h0 (Nat.le_of_eq h1) (Nat.le_of_eq (Eq.symm h2)) (subU x4 1) (subE u13) u17)) (Nat.le_of_not_lt fun u18 => (linF [x2, (x2 - 1), x5, (x5 - x1), x1, x4, x0, (x4 - 1), x3] (.cons 1 (.v 0) (.p (.v 1) (.c 1)) (.cons 1 (.v 2) (.p (.v 3) (.v 4)) (.cons 1 (.v 3) (.v 0) (.cons 1 (.v 5) (.p (.v 6) (.v 2)) (.cons 1 (.p (.v 7) (.c 1)) (.v 5) (.cons 1 (.p (.p (.p (.v 6) (.v 4)) (.p (.v 1) (.v 8))) (.c 1)) (.v 7) .nil)))))) rfl (subU x2 1) (subU x5 x1) (Nat.le_of_eq (Eq.symm h1)) (Nat.le_of_eq h2) (subE u15) u18)))))))))))
theorem a298 {x0 x1 x2 x3 x4 x5 : Nat}  (h0 : ((x0 + x3) ≤ x2)) (h1 : ((x5 + 1) ≤ x4)) (h2 : (x1 < x3)) (h3 : (x4 ≤ x1)) : (((x0 + x1) - 1) < x2) := (lin [x0, x3, x2, x1, ((x0 + x1) - 1)] (.cons 1 (.p (.v 0) (.v 1)) (.v 2) (.cons 1 (.p (.v 3) (.c 1)) (.v 1) (.cons 1 (.p (.v 4) (.c 1)) (.p (.v 0) (.v 3)) .nil))) (.p (.v 4) (.c 1)) (.v 2) rfl h0 h2 (subE (lin [x5, x4, x1, x0] (.cons 1 (.p (.v 0) (.c 1)) (.v 1) (.cons 1 (.v 1) (.v 2) .nil)) (.c 1) (.p (.v 3) (.v 2)) rfl h1 h3)))
theorem a300 {x0 x1 x2 x3 : Nat}  (h0 : (x0 ≤ x3)) (h1 : (x1 = (x2 + x3))) (h2 : (¬ (((x3 - x0) == 0) = true))) : (x0 ≤ ((x1 - 1) - x2)) := (Or.elim (neqC (fun q => h2 (beq_iff_eq.mpr q))) (fun u2 => (lin [x2, x3, x1, (x1 - 1), ((x1 - 1) - x2), (x3 - x0), x0] (.cons 1 (.p (.v 0) (.v 1)) (.v 2) (.cons 1 (.v 3) (.p (.v 4) (.v 0)) (.cons 1 (.v 2) (.p (.v 3) (.c 1)) (.cons 1 (.p (.v 5) (.v 6)) (.v 1) (.cons 1 (.p (.v 5) (.c 1)) (.c 0) .nil))))) (.v 6) (.v 4) rfl (Nat.le_of_eq (Eq.symm h1)) (subU (x1 - 1) x2) (subU x1 1) (subE (lin [x0, x3] (.cons 1 (.v 0) (.v 1) .nil) (.v 0) (.v 1) rfl h0)) u2)) (fun u3 => (lin [x2, x3, x1, (x1 - 1), ((x1 - 1) - x2), (x3 - x0), x0] (.cons 1 (.p (.v 0) (.v 1)) (.v 2) (.cons 1 (.v 3) (.p (.v 4) (.v 0)) (.cons 1 (.v 2) (.p (.v 3) (.c 1)) (.cons 1 (.p (.v 5) (.v 6)) (.v 1) (.cons 1 (.p (.c 0) (.c 1)) (.v 5) .nil))))) (.v 6) (.v 4) rfl (Nat.le_of_eq (Eq.symm h1)) (subU (x1 - 1) x2) (subU x1 1) (subE (lin [x0, x3] (.cons 1 (.v 0) (.v 1) .nil) (.v 0) (.v 1) rfl h0)) u3)))
theorem a301 {x0 x1 x2 : Nat}  (h0 : ((x2 + 1) ≤ x1)) (h1 : (x1 ≤ x0)) : (1 ≤ x0) := (lin [x2, x1, x0] (.cons 1 (.p (.v 0) (.c 1)) (.v 1) (.cons 1 (.v 1) (.v 2) .nil)) (.c 1) (.v 2) rfl h0 h1)
theorem a303 {x0 x1 x2 : Nat}  (h0 : (1 ≤ x2)) (h1 : (x0 = (x1 + x2))) : (((x0 - 1) - x1) < x2) := (lin [x0, x1, x2, ((x0 - 1) - x1), (x0 - 1)] (.cons 1 (.v 0) (.p (.v 1) (.v 2)) (.cons 1 (.p (.v 3) (.v 1)) (.v 4) (.cons 1 (.p (.v 4) (.c 1)) (.v 0) .nil))) (.p (.v 3) (.c 1)) (.v 2) rfl (Nat.le_of_eq h1) (subE (lin [x2, x1, x0, (x0 - 1)] (.cons 1 (.c 1) (.v 0) (.cons 1 (.p (.v 1) (.v 0)) (.v 2) (.cons 1 (.v 2) (.p (.v 3) (.c 1)) .nil))) (.v 1) (.v 3) rfl h0 (Nat.le_of_eq (Eq.symm h1)) (subU x0 1))) (subE (lin [x2, x1, x0] (.cons 1 (.c 1) (.v 0) (.cons 1 (.p (.v 1) (.v 0)) (.v 2) .nil)) (.c 1) (.v 2) rfl h0 (Nat.le_of_eq (Eq.symm h1)))))
theorem a304 {x0 x1 : Nat}   : (x0 ≤ (max x0 x1)) := (lin [x0, (max x0 x1)] (.cons 1 (.v 0) (.v 1) .nil) (.v 0) (.v 1) rfl (Nat.le_max_left x0 x1))
theorem a305 {x0 x1 : Int} (h0 : (x0 < x1)) : (x0 ≤ x1) := (Int.le_of_lt h0)
theorem a306 {x0 x1 : Nat}  (h0 : (x0 ≤ x1)) : ((max x0 x1) ≤ x1) := (lin [(max x0 x1), x1] (.cons 1 (.v 0) (.v 1) .nil) (.v 0) (.v 1) rfl (maxB (lin [x0, x1] (.cons 1 (.v 0) (.v 1) .nil) (.v 0) (.v 1) rfl h0)))
theorem a307 {x0 : Nat}  (h0 : (¬ (x0 > 0))) : (x0 = 0) := (Nat.le_antisymm (lin [x0] (.cons 1 (.v 0) (.c 0) .nil) (.v 0) (.c 0) rfl (Nat.le_of_not_lt h0)) (lin [x0] .nil (.c 0) (.v 0) rfl ))
theorem a308 {x0 x1 x2 : Nat}  (h0 : (1 ≤ x2)) (h1 : (x1 = (x0 + x2))) : ((x0 + ((x1 - 1) - x0)) = (x1 - 1)) := (Nat.le_antisymm (lin [((x1 - 1) - x0), x0, (x1 - 1)] (.cons 1 (.p (.v 0) (.v 1)) (.v 2) .nil) (.p (.v 1) (.v 0)) (.v 2) rfl (subE (lin [x2, x0, x1, (x1 - 1)] (.cons 1 (.c 1) (.v 0) (.cons 1 (.p (.v 1) (.v 0)) (.v 2) (.cons 1 (.v 2) (.p (.v 3) (.c 1)) .nil))) (.v 1) (.v 3) rfl h0 (Nat.le_of_eq (Eq.symm h1)) (subU x1 1)))) (lin [(x1 - 1), ((x1 - 1) - x0), x0] (.cons 1 (.v 0) (.p (.v 1) (.v 2)) .nil) (.v 0) (.p (.v 2) (.v 1)) rfl (subU (x1 - 1) x0)))
theorem a309 {x0 x1 x2 : Int} (h0 : (x2 = x1)) (h1 : (¬ (x2 < (x0 + (1 : Int))))) : ((x0 + (1 : Int)) ≤ x1) := (Int.add_one_le_of_lt (Int.lt_of_lt_of_le (Int.lt_of_add_one_le (Int.not_lt.mp h1)) (Int.le_of_eq h0)))
theorem a310 {x0 x1 x2 x3 x4 x5 x6 x7 x8 : Nat}  (h0 : ((x6 + x7) ≤ x4)) (h1 : (x2 = ((x5 - x1) + x8))) (h2 : (x3 = x4)) (h3 : (x6 = (x0 + x5))) (h4 : (x8 ≤ x7)) (h5 : (¬ (((x5 - x1) == 0) = true))) : (((x0 + x1) + x2) ≤ x3) := (Or.elim (neqC (fun q => h5 (beq_iff_eq.mpr q))) (fun u2 => (False.elim (linF [(x5 - x1)] (.cons 1 (.p (.v 0) (.c 1)) (.c 0) .nil) rfl u2))) (fun u3 => (Or.elim (Nat.le_total x5 x1) (fun u5 => (False.elim (linF [(x5 - x1)] (.cons 1 (.p (.c 0) (.c 1)) (.v 0) (.cons 1 (.v 0) (.c 0) .nil)) rfl u3 (subZ u5)))) (fun u6 => (lin [x6, x7, x4, x2, (x5 - x1), x8, x3, x0, x5, x1] (.cons 1 (.p (.v 0) (.v 1)) (.v 2) (.cons 1 (.v 3) (.p (.v 4) (.v 5)) (.cons 1 (.v 2) (.v 6) (.cons 1 (.p (.v 7) (.v 8)) (.v 0) (.cons 1 (.v 5) (.v 1) (.cons 1 (.p (.v 4) (.v 9)) (.v 8) .nil)))))) (.p (.p (.v 7) (.v 9)) (.v 3)) (.v 6) rfl h0 (Nat.le_of_eq h1) (Nat.le_of_eq (Eq.symm h2)) (Nat.le_of_eq (Eq.symm h3)) h4 (subE u6))))))
theorem a312 {x0 x1 x2 x3 x4 : Nat}  (h0 : (x4 = (x0 + x2))) (h1 : (¬ (((x2 - x1) == 0) = true))) : (((x0 + x1) + ((x2 - x1) + x3)) = (x4 + x3)) := (Or.elim (neqC (fun q => h1 (beq_iff_eq.mpr q))) (fun u1 => (Nat.le_antisymm (False.elim (linF [(x2 - x1)] (.cons 1 (.p (.v 0) (.c 1)) (.c 0) .nil) rfl u1)) (lin [x4, x0, x2, (x2 - x1), x1, x3] (.cons 1 (.v 0) (.p (.v 1) (.v 2)) (.cons 1 (.v 2) (.p (.v 3) (.v 4)) .nil)) (.p (.v 0) (.v 5)) (.p (.p (.v 1) (.v 4)) (.p (.v 3) (.v 5))) rfl (Nat.le_of_eq h0) (subU x2 x1)))) (fun u2 => (Or.elim (Nat.le_total x2 x1) (fun u3 => (Nat.le_antisymm (False.elim (linF [(x2 - x1)] (.cons 1 (.p (.c 0) (.c 1)) (.v 0) (.cons 1 (.v 0) (.c 0) .nil)) rfl u2 (subZ u3))) (lin [x4, x0, x2, x1, x3, (x2 - x1)] (.cons 1 (.v 0) (.p (.v 1) (.v 2)) (.cons 1 (.v 2) (.v 3) .nil)) (.p (.v 0) (.v 4)) (.p (.p (.v 1) (.v 3)) (.p (.v 5) (.v 4))) rfl (Nat.le_of_eq h0) u3))) (fun u4 => (Nat.le_antisymm (lin [x0, x2, x4, (x2 - x1), x1, x3] (.cons 1 (.p (.v 0) (.v 1)) (.v 2) (.cons 1 (.p (.v 3) (.v 4)) (.v 1) .nil)) (.p (.p (.v 0) (.v 4)) (.p (.v 3) (.v 5))) (.p (.v 2) (.v 5)) rfl (Nat.le_of_eq (Eq.symm h0)) (subE u4)) (lin [x4, x0, x2, (x2 - x1), x1, x3] (.cons 1 (.v 0) (.p (.v 1) (.v 2)) (.cons 1 (.v 2) (.p (.v 3) (.v 4)) .nil)) (.p (.v 0) (.v 5)) (.p (.p (.v 1) (.v 4)) (.p (.v 3) (.v 5))) rfl (Nat.le_of_eq h0) (subU x2 x1)))))))
theorem a315 {x0 x1 x2 x3 : Nat}  (h0 : (x1 ≤ x3)) (h1 : (x2 = (x0 + x3))) : ((x0 + x1) ≤ x2) := (lin [x1, x3, x0, x2] (.cons 1 (.v 0) (.v 1) (.cons 1 (.p (.v 2) (.v 1)) (.v 3) .nil)) (.p (.v 2) (.v 0)) (.v 3) rfl h0 (Nat.le_of_eq (Eq.symm h1)))
theorem a316 {x0 x1 x2 x3 x4 x5 x6 x7 : Nat}  (h0 : ((x2 < x0) ∨ ((x5 + x6) ≤ x2))) (h1 : (x3 = ((x4 - x1) + x7))) (h2 : (x5 = (x0 + x4))) (h3 : (x7 ≤ x6)) (h4 : (¬ (((x4 - x1) == 0) = true))) : (¬ (((x0 + x1) ≤ x2) ∧ (x2 < ((x0 + x1) + x3)))) := (fun u1 => (Or.elim h0 (fun u2 => (linF [x0, x1, x2] (.cons 1 (.p (.v 0) (.v 1)) (.v 2) (.cons 1 (.p (.v 2) (.c 1)) (.v 0) .nil)) rfl (And.left u1) u2)) (fun u3 => (Or.elim (neqC (fun q => h4 (beq_iff_eq.mpr q))) (fun u4 => (linF [(x4 - x1)] (.cons 1 (.p (.v 0) (.c 1)) (.c 0) .nil) rfl u4)) (fun u5 => (Or.elim (Nat.le_total x4 x1) (fun u6 => (linF [(x4 - x1)] (.cons 1 (.p (.c 0) (.c 1)) (.v 0) (.cons 1 (.v 0) (.c 0) .nil)) rfl u5 (subZ u6))) (fun u7 => (linF [x3, (x4 - x1), x7, x0, x4, x5, x6, x2, x1] (.cons 1 (.v 0) (.p (.v 1) (.v 2)) (.cons 1 (.p (.v 3) (.v 4)) (.v 5) (.cons 1 (.v 2) (.v 6) (.cons 1 (.p (.v 7) (.c 1)) (.p (.p (.v 3) (.v 8)) (.v 0)) (.cons 1 (.p (.v 5) (.v 6)) (.v 7) (.cons 1 (.p (.v 1) (.v 8)) (.v 4) .nil)))))) rfl (Nat.le_of_eq h1) (Nat.le_of_eq (Eq.symm h2)) h3 (And.right u1) u3 (subE u7)))))))))
theorem a318 {x0 x1 x2 x3 : Nat}  (h0 : (x2 < (x0 + x1))) : (¬ (((x0 + x1) ≤ x2) ∧ (x2 < ((x0 + x1) + x3)))) := (fun u1 => (linF [x2, x0, x1] (.cons 1 (.p (.v 0) (.c 1)) (.p (.v 1) (.v 2)) (.cons 1 (.p (.v 1) (.v 2)) (.v 0) .nil)) rfl h0 (And.left u1)))
theorem a319 {x0 x1 x2 : Nat}  (h0 : (0 < x0)) (h1 : (x0 ≤ x2)) (h2 : (x2 ≤ x1)) : ((x0 - 1) ≤ x1) := (lin [x0, x2, x1, (x0 - 1)] (.cons 1 (.v 0) (.v 1) (.cons 1 (.v 1) (.v 2) (.cons 1 (.p (.v 3) (.c 1)) (.v 0) .nil))) (.v 3) (.v 2) rfl h1 h2 (subE (lin [x0] (.cons 1 (.p (.c 0) (.c 1)) (.v 0) .nil) (.c 1) (.v 0) rfl h0)))
theorem a320 {x0 : Nat}  (h0 : (1 ≤ x0)) (h1 : (¬ (x0 > 1))) : (x0 = 1) := (Nat.le_antisymm (lin [x0] (.cons 1 (.v 0) (.c 1) .nil) (.v 0) (.c 1) rfl (Nat.le_of_not_lt h1)) (lin [x0] (.cons 1 (.c 1) (.v 0) .nil) (.c 1) (.v 0) rfl h0))
theorem a321 {x0 x1 x2 : Nat}  (h0 : (1 < x2)) (h1 : (x0 ≤ (x2 - 1))) (h2 : (x2 ≤ x1)) : (x0 ≤ x1) := (lin [x0, (x2 - 1), x2, x1] (.cons 1 (.v 0) (.v 1) (.cons 1 (.v 2) (.v 3) (.cons 1 (.p (.v 1) (.c 1)) (.v 2) .nil))) (.v 0) (.v 3) rfl h1 h2 (subE (lin [x2] (.cons 1 (.p (.c 1) (.c 1)) (.v 0) .nil) (.c 1) (.v 0) rfl h0)))
theorem a322 {x0 x1 x2 x3 x4 x5 x6 : Nat}  (h0 : (x0 < (x5 + x6))) (h1 : (x3 = ((x4 - x2) + x6))) (h2 : (x5 = (x1 + x4))) (h3 : (¬ (((x4 - x2) == 0) = true))) (h4 : (¬ ((x6 == 0) = true))) : ((x0 - (x1 + x2)) < x3) := (Or.elim (neqC (fun q => h3 (beq_iff_eq.mpr q))) (fun u2 => (False.elim (linF [(x4 - x2)] (.cons 1 (.p (.v 0) (.c 1)) (.c 0) .nil) rfl u2))) (fun u3 => (Or.elim (neqC (fun q => h4 (beq_iff_eq.mpr q))) (fun u5 => (False.elim (linF [x6] (.cons 1 (.p (.v 0) (.c 1)) (.c 0) .nil) rfl u5))) (fun u6 => (Or.elim (Nat.le_total x4 x2) (fun u8 => (False.elim (linF [(x4 - x2)] (.cons 1 (.p (.c 0) (.c 1)) (.v 0) (.cons 1 (.v 0) (.c 0) .nil)) rfl u3 (subZ u8)))) (fun u9 => (Or.elim (Nat.le_total x0 (x1 + x2)) (fun u11 => (lin [(x4 - x2), x6, x3, (x0 - (x1 + x2))] (.cons 1 (.p (.v 0) (.v 1)) (.v 2) (.cons 1 (.p (.c 0) (.c 1)) (.v 1) (.cons 1 (.v 3) (.c 0) .nil))) (.p (.v 3) (.c 1)) (.v 2) rfl (Nat.le_of_eq (Eq.symm h1)) u6 (subZ u11))) (fun u12 => (Nat.le_of_not_lt fun u13 => (linF [x0, x5, x6, x4, (x4 - x2), x2, x3, x1, (x0 - (x1 + x2))] (.cons 1 (.p (.v 0) (.c 1)) (.p (.v 1) (.v 2)) (.cons 1 (.v 3) (.p (.v 4) (.v 5)) (.cons 1 (.p (.v 4) (.v 2)) (.v 6) (.cons 1 (.v 1) (.p (.v 7) (.v 3)) (.cons 1 (.p (.v 8) (.p (.v 7) (.v 5))) (.v 0) (.cons 1 (.p (.v 6) (.c 1)) (.p (.v 8) (.c 1)) .nil)))))) rfl h0 (subU x4 x2) (Nat.le_of_eq (Eq.symm h1)) (Nat.le_of_eq h2) (subE u12) u13))))))))))
theorem a323 {x0 x1 x2 : Nat}  (h0 : (¬ (x2 < (x0 + x1)))) : ((x0 + x1) ≤ x2) := (lin [x0, x1, x2] (.cons 1 (.p (.v 0) (.v 1)) (.v 2) .nil) (.p (.v 0) (.v 1)) (.v 2) rfl (Nat.le_of_not_lt h0))
theorem a324 {x0 x1 x2 x3 x4 x5 x6 : Nat}  (h0 : (((x6 + x5) + x2) ≤ (x3 + x4))) (h1 : (0 < x0)) (h2 : (1 < x5)) (h3 : (x0 ≤ x6)) (h4 : (x1 ≤ (x5 - 1))) : ((((x0 - 1) + x1) + (x2 + 1)) ≤ (x3 + x4)) := (lin [x6, x5, x2, x3, x4, x0, x1, (x5 - 1), (x0 - 1)] (.cons 1 (.p (.p (.v 0) (.v 1)) (.v 2)) (.p (.v 3) (.v 4)) (.cons 1 (.v 5) (.v 0) (.cons 1 (.v 6) (.v 7) (.cons 1 (.p (.v 7) (.c 1)) (.v 1) (.cons 1 (.p (.v 8) (.c 1)) (.v 5) .nil))))) (.p (.p (.v 8) (.v 6)) (.p (.v 2) (.c 1))) (.p (.v 3) (.v 4)) rfl h0 h3 h4 (subE (lin [x5] (.cons 1 (.p (.c 1) (.c 1)) (.v 0) .nil) (.c 1) (.v 0) rfl h2)) (subE (lin [x0] (.cons 1 (.p (.c 0) (.c 1)) (.v 0) .nil) (.c 1) (.v 0) rfl h1)))
theorem a325 {x0 x1 x2 x3 x4 x5 x6 : Nat}  (h0 : (x2 < (x4 + x6))) (h1 : (x3 = ((x5 - x1) + x6))) (h2 : (x4 = (x0 + x5))) (h3 : (¬ (x2 < (x0 + x1)))) : (((x0 + x1) ≤ x2) ∧ (x2 < ((x0 + x1) + x3))) := (And.intro (lin [x0, x1, x2] (.cons 1 (.p (.v 0) (.v 1)) (.v 2) .nil) (.p (.v 0) (.v 1)) (.v 2) rfl (Nat.le_of_not_lt h3)) (lin [x2, x4, x6, x5, (x5 - x1), x1, x3, x0] (.cons 1 (.p (.v 0) (.c 1)) (.p (.v 1) (.v 2)) (.cons 1 (.v 3) (.p (.v 4) (.v 5)) (.cons 1 (.p (.v 4) (.v 2)) (.v 6) (.cons 1 (.v 1) (.p (.v 7) (.v 3)) .nil)))) (.p (.v 0) (.c 1)) (.p (.p (.v 7) (.v 5)) (.v 6)) rfl h0 (subU x5 x1) (Nat.le_of_eq (Eq.symm h1)) (Nat.le_of_eq h2)))
theorem a326 {x0 : Nat}  (h0 : (¬ ((x0 == 0) = true))) (h1 : (¬ ((x0 == 1) = true))) : (1 < x0) := (Or.elim (neqC (fun q => h0 (beq_iff_eq.mpr q))) (fun u2 => (lin [x0] (.cons 2 (.p (.v 0) (.c 1)) (.c 0) .nil) (.p (.c 1) (.c 1)) (.v 0) rfl u2)) (fun u3 => (Or.elim (neqC (fun q => h1 (beq_iff_eq.mpr q))) (fun u5 => (lin [x0] (.cons 2 (.p (.c 0) (.c 1)) (.v 0) (.cons 1 (.p (.v 0) (.c 1)) (.c 1) .nil)) (.p (.c 1) (.c 1)) (.v 0) rfl u3 u5)) (fun u6 => (lin [x0] (.cons 1 (.p (.c 1) (.c 1)) (.v 0) .nil) (.p (.c 1) (.c 1)) (.v 0) rfl u6)))))
theorem a327 {x0 x1 x2 : Int} (h0 : (((x0 + (1 : Int)) ≤ x1) ∧ (x1 ≤ x2))) : ((x0 ≤ x1) ∧ (x1 ≤ x2)) := (And.intro (Int.le_of_lt (Int.lt_of_add_one_le (And.left h0))) (And.right h0))
theorem a329 {x0 x1 x2 : Int} (h0 : ((x0 ≤ x1) ∧ (x1 < x2))) : ((x0 ≤ x1) ∧ (x1 ≤ x2)) := (And.intro (And.left h0) (Int.le_of_lt (And.right h0)))
theorem a331 {x0 x1 x2 x3 x4 x5 x6 : Nat}  (h0 : (x3 = ((x4 - x1) + x6))) (h1 : (x5 = (x0 + x4))) (h2 : (¬ (((x4 - x1) == 0) = true))) (h3 : (¬ (x2 < (x5 + x6)))) : (¬ (((x0 + x1) ≤ x2) ∧ (x2 < ((x0 + x1) + x3)))) := (fun u1 => (Or.elim (neqC (fun q => h2 (beq_iff_eq.mpr q))) (fun u2 => (linF [(x4 - x1)] (.cons 1 (.p (.v 0) (.c 1)) (.c 0) .nil) rfl u2)) (fun u3 => (Or.elim (Nat.le_total x4 x1) (fun u4 => (linF [(x4 - x1)] (.cons 1 (.p (.c 0) (.c 1)) (.v 0) (.cons 1 (.v 0) (.c 0) .nil)) rfl u3 (subZ u4))) (fun u5 => (linF [x3, (x4 - x1), x6, x0, x4, x5, x2, x1] (.cons 1 (.v 0) (.p (.v 1) (.v 2)) (.cons 1 (.p (.v 3) (.v 4)) (.v 5) (.cons 1 (.p (.v 5) (.v 2)) (.v 6) (.cons 1 (.p (.v 6) (.c 1)) (.p (.p (.v 3) (.v 7)) (.v 0)) (.cons 1 (.p (.v 1) (.v 7)) (.v 4) .nil))))) rfl (Nat.le_of_eq h0) (Nat.le_of_eq (Eq.symm h1)) (Nat.le_of_not_lt h3) (And.right u1) (subE u5)))))))
theorem a332 {x0 x1 x2 : Nat}  (h0 : (¬ (x1 < (x0 + x2)))) : ((x0 + (x1 - x0)) = x1) := (Nat.le_antisymm (lin [(x1 - x0), x0, x1] (.cons 1 (.p (.v 0) (.v 1)) (.v 2) .nil) (.p (.v 1) (.v 0)) (.v 2) rfl (subE (lin [x0, x2, x1] (.cons 1 (.p (.v 0) (.v 1)) (.v 2) .nil) (.v 0) (.v 2) rfl (Nat.le_of_not_lt h0)))) (lin [x1, (x1 - x0), x0] (.cons 1 (.v 0) (.p (.v 1) (.v 2)) .nil) (.v 0) (.p (.v 2) (.v 1)) rfl (subU x1 x0)))
theorem a333 {x0 : Nat}  (h0 : (¬ ((x0 == 0) = true))) : (0 < x0) := (Or.elim (neqC (fun q => h0 (beq_iff_eq.mpr q))) (fun u2 => (lin [x0] (.cons 1 (.p (.v 0) (.c 1)) (.c 0) .nil) (.p (.c 0) (.c 1)) (.v 0) rfl u2)) (fun u3 => (lin [x0] (.cons 1 (.p (.c 0) (.c 1)) (.v 0) .nil) (.p (.c 0) (.c 1)) (.v 0) rfl u3)))
theorem a334 {x0 x1 x2 x3 : Nat}  (h0 : (x0 ≤ x3)) (h1 : (x3 < (x1 + x2))) : (x0 < (x1 + x2)) := (lin [x0, x3, x1, x2] (.cons 1 (.v 0) (.v 1) (.cons 1 (.p (.v 1) (.c 1)) (.p (.v 2) (.v 3)) .nil)) (.p (.v 0) (.c 1)) (.p (.v 2) (.v 3)) rfl h0 h1)
theorem a335 {x0 x1 x2 x3 x4 x5 : Nat}  (h0 : ((x3 + x4) ≤ x2)) (h1 : (x2 ≤ x1)) (h2 : (x3 = (x0 + x5))) : (x0 ≤ x1) := (lin [x3, x4, x2, x1, x0, x5] (.cons 1 (.p (.v 0) (.v 1)) (.v 2) (.cons 1 (.v 2) (.v 3) (.cons 1 (.p (.v 4) (.v 5)) (.v 0) .nil))) (.v 4) (.v 3) rfl h0 h1 (Nat.le_of_eq (Eq.symm h2)))
theorem a337 {x0 x1 x2 x3 x4 : Nat}  (h0 : (x0 < (x4 + x2))) (h1 : (x1 = (x4 + x3))) (h2 : (x2 ≤ x3)) : (x0 < x1) := (lin [x0, x4, x2, x3, x1] (.cons 1 (.p (.v 0) (.c 1)) (.p (.v 1) (.v 2)) (.cons 1 (.p (.v 1) (.v 3)) (.v 4) (.cons 1 (.v 2) (.v 3) .nil))) (.p (.v 0) (.c 1)) (.v 4) rfl h0 (Nat.le_of_eq (Eq.symm h1)) h2)
theorem a338 {x0 x1 x2 x3 x4 : Int} (h0 : (x0 = x2)) (h1 : (x1 = x3)) (h2 : (x2 ≤ x4)) (h3 : (x4 ≤ x3)) : (x0 ≤ x1) := (Int.le_trans (Int.le_trans (Int.le_trans (Int.le_of_eq h0) h2) h3) (Int.le_of_eq (Eq.symm h1)))
theorem a339 {x0 x1 x2 x3 x4 x5 : Int} (h0 : ((x5 + (1 : Int)) ≤ x4)) (h1 : (x0 = x2)) (h2 : (x1 = x3)) (h3 : (x2 ≤ x5)) (h4 : (x4 ≤ x3)) : (x0 ≤ x1) := (Int.le_of_lt (Int.lt_of_lt_of_le (Int.lt_of_lt_of_le (Int.lt_of_le_of_lt (Int.le_trans (Int.le_of_eq h1) h3) (Int.lt_of_add_one_le h0)) h4) (Int.le_of_eq (Eq.symm h2))))
theorem a340 {x0 x1 x2 x3 : Nat}  (h0 : ((x2 + x3) ≤ x0)) (h1 : (x0 ≤ x1)) (h2 : (x1 < (x2 + x3))) : False := (linF [x2, x3, x0, x1] (.cons 1 (.p (.v 0) (.v 1)) (.v 2) (.cons 1 (.v 2) (.v 3) (.cons 1 (.p (.v 3) (.c 1)) (.p (.v 0) (.v 1)) .nil))) rfl h0 h1 h2)
theorem a341 {x0 x1 x2 x3 : Nat}  (h0 : (x0 ≤ x3)) : ((x0 - (x1 + x2)) ≤ (x3 - (x1 + x2))) := (Or.elim (Nat.le_total x0 (x1 + x2)) (fun u2 => (lin [(x0 - (x1 + x2)), (x3 - (x1 + x2))] (.cons 1 (.v 0) (.c 0) .nil) (.v 0) (.v 1) rfl (subZ u2))) (fun u3 => (lin [x0, x3, (x3 - (x1 + x2)), x1, x2, (x0 - (x1 + x2))] (.cons 1 (.v 0) (.v 1) (.cons 1 (.v 1) (.p (.v 2) (.p (.v 3) (.v 4))) (.cons 1 (.p (.v 5) (.p (.v 3) (.v 4))) (.v 0) .nil))) (.v 5) (.v 2) rfl h0 (subU x3 (x1 + x2)) (subE u3))))
theorem a342 {x0 x1 x2 x3 x4 x5 x6 : Nat}  (h0 : ((x4 + x6) ≤ x5)) (h1 : (x0 ≤ x1)) (h2 : (x2 < (x3 + x0))) (h3 : (x4 = (x3 + x1))) (h4 : (x5 ≤ x2)) : False := (linF [x4, x6, x5, x0, x1, x2, x3] (.cons 1 (.p (.v 0) (.v 1)) (.v 2) (.cons 1 (.v 3) (.v 4) (.cons 1 (.p (.v 5) (.c 1)) (.p (.v 6) (.v 3)) (.cons 1 (.p (.v 6) (.v 4)) (.v 0) (.cons 1 (.v 2) (.v 5) .nil))))) rfl h0 h1 h2 (Nat.le_of_eq (Eq.symm h3)) h4)
theorem a343 {x0 x1 x2 : Nat}  (h0 : (x0 = (x1 - x2))) (h1 : (¬ (((x1 - x2) == 0) = true))) : (1 ≤ x0) := (Or.elim (neqC (fun q => h1 (beq_iff_eq.mpr q))) (fun u2 => (lin [(x1 - x2), x0] (.cons 1 (.p (.v 0) (.c 1)) (.c 0) .nil) (.c 1) (.v 1) rfl u2)) (fun u3 => (lin [(x1 - x2), x0] (.cons 1 (.v 0) (.v 1) (.cons 1 (.p (.c 0) (.c 1)) (.v 0) .nil)) (.c 1) (.v 1) rfl (Nat.le_of_eq (Eq.symm h0)) u3)))
theorem a344 {x0 x1 : Nat}  (h0 : (x0 = x1)) (h1 : (¬ ((x1 == 0) = true))) : (1 ≤ x0) := (Or.elim (neqC (fun q => h1 (beq_iff_eq.mpr q))) (fun u2 => (lin [x1, x0] (.cons 1 (.p (.v 0) (.c 1)) (.c 0) .nil) (.c 1) (.v 1) rfl u2)) (fun u3 => (lin [x1, x0] (.cons 1 (.v 0) (.v 1) (.cons 1 (.p (.c 0) (.c 1)) (.v 0) .nil)) (.c 1) (.v 1) rfl (Nat.le_of_eq (Eq.symm h0)) u3)))
theorem a345 {x0 : Nat}  (h0 : (¬ (x0 < 10))) : (0 < (x0 / 10)) := by first | lia | omega
theorem a346 {x0 : Nat}  (h0 : (0 < x0)) : ((48 + x0) ≠ 48) := (fun u1 => (linF [x0] (.cons 1 (.p (.c 0) (.c 1)) (.v 0) (.cons 1 (.p (.c 48) (.v 0)) (.c 48) .nil)) rfl h0 (Nat.le_of_eq u1)))
theorem a347 {x0 : Nat}  (h0 : (0 < x0)) : ((x0 / 10) < x0) := by first | lia | omega
theorem a348 {x0 : Nat}  (h0 : ((48 ≤ x0) ∧ (x0 ≤ 57))) (h1 : ((x0 < 48) ∨ (57 < x0))) : False := (Or.elim h1 (fun u1 => (linF [x0] (.cons 1 (.c 48) (.v 0) (.cons 1 (.p (.v 0) (.c 1)) (.c 48) .nil)) rfl (And.left h0) u1)) (fun u2 => (linF [x0] (.cons 1 (.v 0) (.c 57) (.cons 1 (.p (.c 57) (.c 1)) (.v 0) .nil)) rfl (And.right h0) u2)))
theorem a350 {x0 : Nat}  (h0 : (¬ (x0 = 0))) : (0 < x0) := (Or.elim (neqC h0) (fun u2 => (lin [x0] (.cons 1 (.p (.v 0) (.c 1)) (.c 0) .nil) (.p (.c 0) (.c 1)) (.v 0) rfl u2)) (fun u3 => (lin [x0] (.cons 1 (.p (.c 0) (.c 1)) (.v 0) .nil) (.p (.c 0) (.c 1)) (.v 0) rfl u3)))
theorem a352 {x0 : Nat}  (h0 : (0 = (x0 + 1))) : False := (linF [x0] (.cons 1 (.p (.v 0) (.c 1)) (.c 0) .nil) rfl (Nat.le_of_eq (Eq.symm h0)))
theorem a353 {x0 : Nat}   : (0 < (x0 + 1)) := (lin [x0] .nil (.p (.c 0) (.c 1)) (.p (.v 0) (.c 1)) rfl )
theorem a354 {x0 : Nat}   : (((x0 = 48) ∨ ((x0 = 49) ∨ ((x0 = 50) ∨ ((x0 = 51) ∨ ((x0 = 52) ∨ ((x0 = 53) ∨ ((x0 = 54) ∨ ((x0 = 55) ∨ ((x0 = 56) ∨ (x0 = 57)))))))))) ↔ ((48 ≤ x0) ∧ (x0 ≤ 57))) := by first | lia | omega
theorem a355 {x0 x1 : Nat}  (h0 : ((x0 + 1) ≤ (x1 + 1))) : (x0 ≤ x1) := (lin [x0, x1] (.cons 1 (.p (.v 0) (.c 1)) (.p (.v 1) (.c 1)) .nil) (.v 0) (.v 1) rfl h0)
theorem a357 {x0 x1 x2 x3 x4 x5 : Nat}  (h0 : (((x0 < x1) ∧ ((x0 < x2) ∧ (x3 = x4))) ↔ (x0 < x5))) (h1 : ((x0 + 1) ≤ (x5 + 1))) : ((((x0 + 1) < (x1 + 1)) ∧ (((x0 + 1) < (x2 + 1)) ∧ (x3 = x4))) ↔ ((x0 + 1) < (x5 + 1))) := by first | lia | omega
theorem a358 {x0 : Nat}  (h0 : ((x0 + 1) ≤ 0)) : False := (linF [x0] (.cons 1 (.p (.v 0) (.c 1)) (.c 0) .nil) rfl h0)
theorem a359 {x0 x1 x2 : Nat}  (h0 : ((x0 + x2) ≤ x1)) (h1 : (0 < x2)) : (x0 < x1) := (lin [x0, x2, x1] (.cons 1 (.p (.v 0) (.v 1)) (.v 2) (.cons 1 (.p (.c 0) (.c 1)) (.v 1) .nil)) (.p (.v 0) (.c 1)) (.v 2) rfl h0 h1)
theorem a360 {x0 x1 x2 : Nat}  (h0 : (((x0 + (10 * x2)) + 100) ≤ x1)) : (x0 < x1) := (lin [x0, x2, x1] (.cons 1 (.p (.p (.v 0) (.m 10 (.v 1))) (.c 100)) (.v 2) .nil) (.p (.v 0) (.c 1)) (.v 2) rfl h0)
theorem a361 {x0 x1 : Nat}  (h0 : (x0 = x1)) (h1 : (x1 < (2 ^ 62))) : (((x0 : Nat) : Int) < ((2 : Int) ^ 63)) := (Int.ofNat_lt.mpr (lin [x0, x1] (.cons 1 (.v 0) (.v 1) (.cons 1 (.p (.v 1) (.c 1)) (.c (2 ^ 62)) .nil)) (.p (.v 0) (.c 1)) (.c (2 ^ 63)) rfl (Nat.le_of_eq h0) h1))
theorem a362 {x0 : Nat}  (h0 : (x0 < (2 ^ 62))) : (¬ (((x0 : Nat) : Int) ≥ ((2 : Int) ^ 63))) := (fun q => (fun u1 => (linF [x0] (.cons 1 (.p (.v 0) (.c 1)) (.c (2 ^ 62)) (.cons 1 (.c (2 ^ 63)) (.v 0) .nil)) rfl h0 u1)) (Int.ofNat_le.mp q))
theorem a363 {x0 : Nat}  (h0 : (x0 < (2 ^ 62))) : (((x0 : Nat) : Int) < ((2 : Int) ^ 63)) := (Int.ofNat_lt.mpr (lin [x0] (.cons 1 (.p (.v 0) (.c 1)) (.c (2 ^ 62)) .nil) (.p (.v 0) (.c 1)) (.c (2 ^ 63)) rfl h0))
theorem a364 {x0 x1 x2 : Nat}  (h0 : ((x0 + x1) = (x2 + 1))) (h1 : (x1 ≤ x2)) : ((x0 - 1) < x0) := (lin [(x0 - 1), x0] (.cons 1 (.p (.v 0) (.c 1)) (.v 1) .nil) (.p (.v 0) (.c 1)) (.v 1) rfl (subE (lin [x2, x0, x1] (.cons 1 (.p (.v 0) (.c 1)) (.p (.v 1) (.v 2)) (.cons 1 (.v 2) (.v 0) .nil)) (.c 1) (.v 1) rfl (Nat.le_of_eq (Eq.symm h0)) h1)))
theorem a365 {x0 x1 : Nat}  (h0 : ((x1 - 1) < x1)) (h1 : (x0 = x1)) : (1 ≤ x0) := (lin [x1, x0, (x1 - 1)] (.cons 1 (.v 0) (.v 1) (.cons 1 (.p (.v 2) (.c 1)) (.v 0) .nil)) (.c 1) (.v 1) rfl (Nat.le_of_eq (Eq.symm h1)) (subE (lin [(x1 - 1), x1] (.cons 1 (.p (.v 0) (.c 1)) (.v 1) .nil) (.c 1) (.v 1) rfl h0)))
theorem a366 {x0 x1 : Nat}  (h0 : ((x1 - 1) < x1)) (h1 : (x0 = x1)) : ((Int.toNat ((-(1 : Int)) + ((x0 : Nat) : Int))) = (x1 - 1)) := by first | lia | omega
theorem a367 {x0 : Nat}  (h0 : (1 ≤ x0)) : ((-((x0 : Nat) : Int)) ≤ (-(1 : Int))) := by first | lia | omega
theorem a368 {x0 x1 : Nat}  (h0 : (1 ≤ x0)) (h1 : (x0 = x1)) : ((-((x0 : Nat) : Int)) ≤ (-(1 : Int))) := by first | lia | omega
theorem a369 {x1 : Nat} {x0 : Int} (h0 : (x0 < (0 : Int))) : ((Int.toNat (x0 + ((x1 : Nat) : Int))) ≤ x1) := by first | lia | omega
theorem a370 {x1 : Nat} {x0 : Int}  : ((min (Int.toNat x0) x1) ≤ x1) := by first | lia | omega
theorem a371 {x0 : Int} (h0 : ((0 : Int) ≤ x0)) : ((-((2 : Int) ^ 63)) ≤ x0) := by first | lia | omega
theorem a372 {x0 x1 x2 : Nat}  (h0 : ((x2 - x0) = x1)) (h1 : (x2 ≤ x1)) (h2 : (¬ (x1 = 0))) : (x0 = 0) := (Or.elim (neqC h2) (fun u1 => (Nat.le_antisymm (False.elim (linF [x1] (.cons 1 (.p (.v 0) (.c 1)) (.c 0) .nil) rfl u1)) (lin [x0] .nil (.c 0) (.v 0) rfl ))) (fun u2 => (Or.elim (Nat.le_total x2 x0) (fun u3 => (Nat.le_antisymm (False.elim (linF [x1, (x2 - x0)] (.cons 1 (.v 0) (.v 1) (.cons 1 (.p (.c 0) (.c 1)) (.v 0) (.cons 1 (.v 1) (.c 0) .nil))) rfl (Nat.le_of_eq (Eq.symm h0)) u2 (subZ u3))) (lin [x0] .nil (.c 0) (.v 0) rfl ))) (fun u4 => (Nat.le_antisymm (lin [x1, (x2 - x0), x2, x0] (.cons 1 (.v 0) (.v 1) (.cons 1 (.v 2) (.v 0) (.cons 1 (.p (.v 1) (.v 3)) (.v 2) .nil))) (.v 3) (.c 0) rfl (Nat.le_of_eq (Eq.symm h0)) h1 (subE u4)) (lin [x0] .nil (.c 0) (.v 0) rfl ))))))
theorem a373 {x0 : Int} (h0 : (x0 < ((2 : Int) ^ 62))) : (x0 < ((2 : Int) ^ 63)) := by first | lia | omega
theorem a374 {x0 x1 x2 : Nat}  (h0 : ((x0 - x2) = x1)) (h1 : (x0 ≤ x1)) : (x0 = x1) := (Nat.le_antisymm (lin [x0, x1] (.cons 1 (.v 0) (.v 1) .nil) (.v 0) (.v 1) rfl h1) (lin [(x0 - x2), x0, x1] (.cons 1 (.v 0) (.v 1) (.cons 1 (.v 2) (.v 0) .nil)) (.v 2) (.v 1) rfl (Nat.sub_le x0 x2) (Nat.le_of_eq (Eq.symm h0))))
theorem a375 {x1 : Nat} {x0 : Int} (h0 : ((0 : Int) ≤ x0)) (h1 : ((Int.toNat x0) < x1)) : (x0 < ((x1 : Nat) : Int)) := by first | lia | omega
theorem a376 {x1 : Nat} {x0 : Int} (h0 : (x0 < (0 : Int))) : ((max (0 : Int) (min (x0 + ((x1 : Nat) : Int)) ((x1 : Nat) : Int))) = (((Int.toNat (x0 + ((x1 : Nat) : Int))) : Nat) : Int)) := by first | lia | omega
theorem a377 {x1 : Nat} {x0 : Int} (h0 : (¬ (x0 < (0 : Int)))) : ((max (0 : Int) (min x0 ((x1 : Nat) : Int))) = (((min (Int.toNat x0) x1) : Nat) : Int)) := by first | lia | omega
theorem a378 {x0 : Int} (h0 : ((0 : Int) < x0)) (h1 : (x0 < (1073741824 : Int))) : ((Int.natAbs x0) < 1073741824) := by first | lia | omega
theorem a379 {x0 x1 x2 : Nat}  (h0 : ((x0 + x1) ≤ x2)) (h1 : (0 < x1)) : (((x0 + 1) + (x1 - 1)) ≤ x2) := (lin [x0, x1, x2, (x1 - 1)] (.cons 1 (.p (.v 0) (.v 1)) (.v 2) (.cons 1 (.p (.v 3) (.c 1)) (.v 1) .nil)) (.p (.p (.v 0) (.c 1)) (.v 3)) (.v 2) rfl h0 (subE (lin [x1] (.cons 1 (.p (.c 0) (.c 1)) (.v 0) .nil) (.c 1) (.v 0) rfl h1)))
theorem a380 {x0 : Nat}  (h0 : (x0 < 8)) : (((x0 + 0) + 0) < 30) := (lin [x0] (.cons 1 (.p (.v 0) (.c 1)) (.c 8) .nil) (.p (.p (.p (.v 0) (.c 0)) (.c 0)) (.c 1)) (.c 30) rfl h0)
theorem a381 {x0 x1 x2 : Nat}  (h0 : ((x0 + x1) = (x2 + 1))) (h1 : (x1 ≤ x2)) : (((x0 - 1) + (x1 + 1)) = (x2 + 1)) := (Nat.le_antisymm (lin [x0, x1, x2, (x0 - 1)] (.cons 1 (.p (.v 0) (.v 1)) (.p (.v 2) (.c 1)) (.cons 1 (.p (.v 3) (.c 1)) (.v 0) .nil)) (.p (.v 3) (.p (.v 1) (.c 1))) (.p (.v 2) (.c 1)) rfl (Nat.le_of_eq h0) (subE (lin [x2, x0, x1] (.cons 1 (.p (.v 0) (.c 1)) (.p (.v 1) (.v 2)) (.cons 1 (.v 2) (.v 0) .nil)) (.c 1) (.v 1) rfl (Nat.le_of_eq (Eq.symm h0)) h1))) (lin [x2, x0, x1, (x0 - 1)] (.cons 1 (.p (.v 0) (.c 1)) (.p (.v 1) (.v 2)) (.cons 1 (.v 1) (.p (.v 3) (.c 1)) .nil)) (.p (.v 0) (.c 1)) (.p (.v 3) (.p (.v 2) (.c 1))) rfl (Nat.le_of_eq (Eq.symm h0)) (subU x0 1)))
theorem a382 {x0 x1 x2 : Nat}  (h0 : (((x0 + (10 * x1)) + 100) ≤ x2)) (h1 : (0 < x1)) : ((((x0 + 3) + (10 * (x1 - 1))) + 100) ≤ x2) := (Nat.le_of_not_lt fun u1 => (linF [x0, x1, x2, (x1 - 1)] (.cons 1 (.p (.p (.v 0) (.m 10 (.v 1))) (.c 100)) (.v 2) (.cons 10 (.p (.v 3) (.c 1)) (.v 1) (.cons 1 (.p (.v 2) (.c 1)) (.p (.p (.p (.v 0) (.c 3)) (.m 10 (.v 3))) (.c 100)) .nil))) rfl h0 (subE (lin [x1] (.cons 1 (.p (.c 0) (.c 1)) (.v 0) .nil) (.c 1) (.v 0) rfl h1)) u1))
theorem a383 {x0 : Int} (h0 : ((0 : Int) ≤ x0)) : (¬ (x0 < (-((2 : Int) ^ 63)))) := by first | lia | omega
theorem a384 {x1 : Nat} {x0 : Int} (h0 : (x0 < ((x1 : Nat) : Int))) (h1 : (x1 < (2 ^ 62))) : (¬ (x0 ≥ ((2 : Int) ^ 63))) := by first | lia | omega
theorem a385 {x1 : Nat} {x0 : Int} (h0 : ((0 : Int) ≤ x0)) (h1 : (x0 < ((x1 : Nat) : Int))) : ((Int.toNat x0) < x1) := by first | lia | omega
theorem a386 {x0 x1 : Int} (h0 : (x1 < x0)) : ((x0 - x1) = (((Int.toNat (x0 - x1)) : Nat) : Int)) := by first | lia | omega
theorem a387 {x0 x1 : Int} (h0 : (¬ (x1 < x0))) : ((0 : Int) = (((Int.toNat (x0 - x1)) : Nat) : Int)) := by first | lia | omega
theorem a388 {x0 x1 x2 x3 : Nat}  (h0 : ((x1 * x2) ≤ (1000 * 1))) (h1 : (x0 ≤ (x3 * 1000))) (h2 : (x3 ≤ 1000)) : ((x0 + (x1 * x2)) ≤ 16777216) := (Nat.le_of_not_lt fun u1 => (linF [(x1 * x2), (x3 * 1000), x3, x0] (.cons 1 (.v 0) (.m 1000 (.c 1)) (.cons 1 (.v 1) (.m 1000 (.v 2)) (.cons 1 (.v 3) (.v 1) (.cons 1000 (.v 2) (.c 1000) (.cons 1 (.p (.c 16777216) (.c 1)) (.p (.v 3) (.v 0)) .nil))))) rfl h0 (Nat.le_of_eq (Nat.mul_comm x3 1000)) h1 h2 u1))
theorem a389 {x0 : Nat}  (h0 : (2 ≤ x0)) : (((x0 : Nat) : Int) ≠ (1 : Int)) := (fun q => (fun u1 => (linF [x0] (.cons 1 (.c 2) (.v 0) (.cons 1 (.v 0) (.c 1) .nil)) rfl h0 (Nat.le_of_eq u1))) (Int.ofNat_inj.mp q))
theorem a390 {x0 x1 : Nat}  (h0 : (2 ≤ x1)) (h1 : (x0 = x1)) : (0 < x0) := (lin [x1, x0] (.cons 1 (.c 2) (.v 0) (.cons 1 (.v 0) (.v 1) .nil)) (.p (.c 0) (.c 1)) (.v 1) rfl h0 (Nat.le_of_eq (Eq.symm h1)))
theorem a391 {x0 x1 : Nat}  (h0 : (x0 = x1)) (h1 : (x1 ≤ 10000)) : (x0 ≤ 16777216) := (lin [x0, x1] (.cons 1 (.v 0) (.v 1) (.cons 1 (.v 1) (.c 10000) .nil)) (.v 0) (.c 16777216) rfl (Nat.le_of_eq h0) h1)
theorem a392 {x0 : Nat}  (h0 : (2 ≤ x0)) : (¬ (((x0 : Nat) : Int) < (-((2 : Int) ^ 63)))) := by first | lia | omega
theorem a393 {x0 : Nat}  (h0 : (x0 ≤ 1000)) : (¬ (((x0 : Nat) : Int) ≥ ((2 : Int) ^ 63))) := (fun q => (fun u1 => (linF [x0] (.cons 1 (.v 0) (.c 1000) (.cons 1 (.c (2 ^ 63)) (.v 0) .nil)) rfl h0 u1)) (Int.ofNat_le.mp q))
theorem a394 {x0 : Nat}  (h0 : (x0 < 2)) : (x0 ≤ 16777217) := (lin [x0] (.cons 1 (.p (.v 0) (.c 1)) (.c 2) .nil) (.v 0) (.c 16777217) rfl h0)
theorem a395 {x0 : Nat}  (h0 : (2 ≤ x0)) : ((0 : Int) < ((x0 : Nat) : Int)) := (Int.ofNat_lt.mpr (lin [x0] (.cons 1 (.c 2) (.v 0) .nil) (.p (.c 0) (.c 1)) (.v 0) rfl h0))
theorem a396 {x0 : Nat}  (h0 : (x0 ≤ 1000)) : (((1 : Int) * ((x0 : Nat) : Int)) ≤ (((2 : Int) ^ 63) - (1 : Int))) := by first | lia | omega
theorem a397 {x0 : Nat}  (h0 : ((1 : Int) ≤ ((((2 : Int) ^ 63) - (1 : Int)) / ((x0 : Nat) : Int)))) : (¬ (((1 : Nat) : Int) > ((((2 : Int) ^ 63) - (1 : Int)) / ((x0 : Nat) : Int)))) := by first | lia | omega
theorem a398 {x0 x1 : Nat}  (h0 : (x0 < 2)) (h1 : (x0 = ((x1 + 1) + 1))) : False := (linF [x0, x1] (.cons 1 (.p (.v 0) (.c 1)) (.c 2) (.cons 1 (.p (.p (.v 1) (.c 1)) (.c 1)) (.v 0) .nil)) rfl h0 (Nat.le_of_eq (Eq.symm h1)))
theorem a399 {x0 x1 : Nat}  (h0 : (1000 ≤ x0)) (h1 : (x1 ≤ 1000)) : (¬ (x0 < (1 * x1))) := (fun u1 => (linF [x0, x1] (.cons 1 (.c 1000) (.v 0) (.cons 1 (.v 1) (.c 1000) (.cons 1 (.p (.v 0) (.c 1)) (.m 1 (.v 1)) .nil))) rfl h0 h1 u1))
theorem a400 {x0 : Nat}  (h0 : (2 ≤ x0)) : (¬ (((x0 : Nat) : Int) < (1 : Int))) := (fun q => (fun u1 => (linF [x0] (.cons 1 (.c 2) (.v 0) (.cons 1 (.p (.v 0) (.c 1)) (.c 1) .nil)) rfl h0 u1)) (Int.ofNat_lt.mp q))
theorem a401 {x0 x1 : Nat}  (h0 : (x1 = x0)) (h1 : (¬ (x1 < 2))) : (2 ≤ x0) := (lin [x1, x0] (.cons 1 (.v 0) (.v 1) (.cons 1 (.c 2) (.v 0) .nil)) (.c 2) (.v 1) rfl (Nat.le_of_eq h0) (Nat.le_of_not_lt h1))
theorem a402 {x0 : Nat}  (h0 : (¬ (x0 < 2))) : (2 ≤ x0) := (lin [x0] (.cons 1 (.c 2) (.v 0) .nil) (.c 2) (.v 0) rfl (Nat.le_of_not_lt h0))
theorem a403 {x0 : Nat}  (h0 : (x0 ≤ 10000)) : (x0 ≤ (16777216 + 1)) := (lin [x0] (.cons 1 (.v 0) (.c 10000) .nil) (.v 0) (.p (.c 16777216) (.c 1)) rfl h0)
theorem a404 {x0 x1 x2 : Nat}  (h0 : (x0 < x2)) (h1 : (x2 ≤ x1)) : (x0 ≤ x1) := (lin [x0, x2, x1] (.cons 1 (.p (.v 0) (.c 1)) (.v 1) (.cons 1 (.v 1) (.v 2) .nil)) (.v 0) (.v 2) rfl h0 h1)
theorem a405 {x0 x1 : Nat}  (h0 : (((x0 : Nat) : Int) < ((x1 : Nat) : Int))) : (x0 < x1) := (lin [x0, x1] (.cons 1 (.p (.v 0) (.c 1)) (.v 1) .nil) (.p (.v 0) (.c 1)) (.v 1) rfl (Int.ofNat_lt.mp h0))
theorem a406 {x0 x1 : Nat}  (h0 : (x0 ≤ 400)) (h1 : (x1 ≤ 400)) : ((x0 + (x1 + 1)) ≤ 1000) := (lin [x0, x1] (.cons 1 (.v 0) (.c 400) (.cons 1 (.v 1) (.c 400) .nil)) (.p (.v 0) (.p (.v 1) (.c 1))) (.c 1000) rfl h0 h1)
theorem a407 {x0 x1 : Nat}  (h0 : (x0 ≤ 61)) (h1 : (x1 ≤ 40)) : (((x0 + 1) + x1) ≤ 102) := (lin [x0, x1] (.cons 1 (.v 0) (.c 61) (.cons 1 (.v 1) (.c 40) .nil)) (.p (.p (.v 0) (.c 1)) (.v 1)) (.c 102) rfl h0 h1)
theorem a408 {x0 x1 : Nat}  (h0 : (x0 ≤ 102)) (h1 : (x1 ≤ 100)) : ((x0 + x1) ≤ 1000) := (lin [x0, x1] (.cons 1 (.v 0) (.c 102) (.cons 1 (.v 1) (.c 100) .nil)) (.p (.v 0) (.v 1)) (.c 1000) rfl h0 h1)
theorem a409 {x0 x1 : Nat}  (h0 : ((min x0 x1) = 0)) (h1 : (1 ≤ x0)) (h2 : (1 ≤ x1)) : False := (Or.elim (Nat.le_total x0 x1) (fun u1 => (linF [(min x0 x1), x0] (.cons 1 (.v 0) (.c 0) (.cons 1 (.c 1) (.v 1) (.cons 1 (.v 1) (.v 0) .nil))) rfl (Nat.le_of_eq h0) h1 (minA u1))) (fun u2 => (linF [(min x0 x1), x1] (.cons 1 (.v 0) (.c 0) (.cons 1 (.c 1) (.v 1) (.cons 1 (.v 1) (.v 0) .nil))) rfl (Nat.le_of_eq h0) h2 (minB u2))))
theorem a410 {x0 x1 : Nat}  (h0 : (x1 ≤ 61)) : (((min x0 x1) + ((x1 - x0) + 1)) ≤ 400) := (lin [x1, (min x0 x1), (x1 - x0)] (.cons 2 (.v 0) (.c 61) (.cons 1 (.v 1) (.v 0) (.cons 1 (.v 2) (.v 0) .nil))) (.p (.v 1) (.p (.v 2) (.c 1))) (.c 400) rfl h0 (Nat.min_le_right x0 x1) (Nat.sub_le x1 x0))
theorem a411 {x0 x1 : Nat}  (h0 : (x0 < x1)) (h1 : (x1 ≤ 150)) : (((min x0 x1) + ((x1 - (x0 + 1)) + 1)) ≤ 900) := (lin [x1, (min x0 x1), x0, (x1 - (x0 + 1))] (.cons 1 (.v 0) (.c 150) (.cons 1 (.v 1) (.v 2) (.cons 1 (.p (.v 3) (.p (.v 2) (.c 1))) (.v 0) .nil))) (.p (.v 1) (.p (.v 3) (.c 1))) (.c 900) rfl h1 (Nat.min_le_left x0 x1) (subE (lin [x0, x1] (.cons 1 (.p (.v 0) (.c 1)) (.v 1) .nil) (.p (.v 0) (.c 1)) (.v 1) rfl h0)))
theorem a412 {x0 x1 : Nat}  (h0 : (x0 ≤ x1)) : (x0 ≤ (1 * (x1 + 1))) := (lin [x0, x1] (.cons 1 (.v 0) (.v 1) .nil) (.v 0) (.m 1 (.p (.v 1) (.c 1))) rfl h0)
theorem a413 {x0 x1 : Nat}  (h0 : ((x0 + x1) ≤ 150)) : (x0 ≤ 900) := (lin [x0, x1] (.cons 1 (.p (.v 0) (.v 1)) (.c 150) .nil) (.v 0) (.c 900) rfl h0)
theorem a414 {x0 x1 x2 x3 : Nat}  (h0 : (x0 ≤ x3)) (h1 : (x1 ≤ (x2 * (x3 + 1)))) : ((x0 + (1 + x1)) ≤ ((x2 * (x3 + 1)) + (x3 + 1))) := (lin [x0, x3, x1, (x2 * (x3 + 1))] (.cons 1 (.v 0) (.v 1) (.cons 1 (.v 2) (.v 3) .nil)) (.p (.v 0) (.p (.c 1) (.v 2))) (.p (.v 3) (.p (.v 1) (.c 1))) rfl h0 h1)
theorem a415 {x0 x1 : Nat}  (h0 : ((x0 + x1) ≤ 500)) : (((x0 + 1) + (x1 + 1)) ≤ 900) := (lin [x0, x1] (.cons 1 (.p (.v 0) (.v 1)) (.c 500) .nil) (.p (.p (.v 0) (.c 1)) (.p (.v 1) (.c 1))) (.c 900) rfl h0)
theorem a416 {x0 : Nat}  (h0 : (x0 ≤ 61)) : ((x0 + 1) ≤ 16777216) := (lin [x0] (.cons 1 (.v 0) (.c 61) .nil) (.p (.v 0) (.c 1)) (.c 16777216) rfl h0)
theorem a417 {x0 : Nat}  (h0 : (x0 ≤ 1000)) : (x0 ≤ 16777216) := (lin [x0] (.cons 1 (.v 0) (.c 1000) .nil) (.v 0) (.c 16777216) rfl h0)
theorem a418 {x0 x1 : Nat}  (h0 : (x0 ≤ 61)) (h1 : (x1 ≤ 40)) : (((x0 + 1) + x1) ≤ 16777216) := (lin [x0, x1] (.cons 1 (.v 0) (.c 61) (.cons 1 (.v 1) (.c 40) .nil)) (.p (.p (.v 0) (.c 1)) (.v 1)) (.c 16777216) rfl h0 h1)
theorem a419 {x0 : Nat}  (h0 : (x0 ≤ 900)) : ((x0 + 1) ≤ 901) := (lin [x0] (.cons 1 (.v 0) (.c 900) .nil) (.p (.v 0) (.c 1)) (.c 901) rfl h0)
theorem a420 {x0 : Nat}   : ((Int.toNat ((-(1 : Int)) + (((x0 + 1) : Nat) : Int))) = x0) := by first | lia | omega
theorem a421 {x0 x1 : Nat}  (h0 : (x0 ≤ (x1 * (1000 + 1)))) (h1 : (x1 ≤ 901)) : (x0 ≤ 10000000) := by first | lia | omega
theorem a422 {x0 : Nat}  (h0 : (x0 ≤ 40)) : ((2 + x0) ≤ 400) := (lin [x0] (.cons 1 (.v 0) (.c 40) .nil) (.p (.c 2) (.v 0)) (.c 400) rfl h0)
theorem a423 {x0 x1 : Nat}  (h0 : ((x1 + 4) ≤ x0)) : (0 < x0) := (lin [x1, x0] (.cons 1 (.p (.v 0) (.c 4)) (.v 1) .nil) (.p (.c 0) (.c 1)) (.v 1) rfl h0)
theorem a424 {x0 : Nat}  (h0 : (x0 ≤ 102)) : (x0 ≤ 1000000) := (lin [x0] (.cons 1 (.v 0) (.c 102) .nil) (.v 0) (.c 1000000) rfl h0)
theorem a425 {x0 x1 : Nat}  (h0 : ((10000000 + 2) ≤ x1)) (h1 : (x0 ≤ 10000000)) : (x0 ≤ x1) := (lin [x1, x0] (.cons 1 (.p (.c 10000000) (.c 2)) (.v 0) (.cons 1 (.v 1) (.c 10000000) .nil)) (.v 1) (.v 0) rfl h0 h1)
theorem a426 {x0 x1 x2 : Nat}  (h0 : ((10000000 + 2) ≤ x1)) (h1 : (x0 ≤ (x2 + 2))) (h2 : (x2 ≤ 10000000)) : (x0 ≤ x1) := (lin [x1, x0, x2] (.cons 1 (.p (.c 10000000) (.c 2)) (.v 0) (.cons 1 (.v 1) (.p (.v 2) (.c 2)) (.cons 1 (.v 2) (.c 10000000) .nil))) (.v 1) (.v 0) rfl h0 h1 h2)
theorem a427 {x0 x1 : Nat}  (h0 : (x0 < x1)) (h1 : (x1 ≤ 900)) : (x0 ≤ 16777216) := (lin [x0, x1] (.cons 1 (.p (.v 0) (.c 1)) (.v 1) (.cons 1 (.v 1) (.c 900) .nil)) (.v 0) (.c 16777216) rfl h0 h1)
theorem a428 {x0 x1 : Nat}  (h0 : (x0 < x1)) (h1 : (x1 ≤ 1000)) : (((x0 : Nat) : Int) < ((2 : Int) ^ 62)) := (Int.ofNat_lt.mpr (lin [x0, x1] (.cons 1 (.p (.v 0) (.c 1)) (.v 1) (.cons 1 (.v 1) (.c 1000) .nil)) (.p (.v 0) (.c 1)) (.c (2 ^ 62)) rfl h0 h1))
theorem a429 {x0 x1 : Nat}  (h0 : (x0 < x1)) : (x0 < (x1 + 1)) := (lin [x0, x1] (.cons 1 (.p (.v 0) (.c 1)) (.v 1) .nil) (.p (.v 0) (.c 1)) (.p (.v 1) (.c 1)) rfl h0)
theorem a430 {x0 x1 : Nat}  (h0 : (10 ≤ x0)) (h1 : (x1 < 10)) (h2 : (x1 = x0)) : False := (linF [x0, x1] (.cons 1 (.c 10) (.v 0) (.cons 1 (.p (.v 1) (.c 1)) (.c 10) (.cons 1 (.v 0) (.v 1) .nil))) rfl h0 h1 (Nat.le_of_eq (Eq.symm h2)))
theorem a431 {x0 : Nat}  (h0 : ((¬ (x0 = 48)) ∧ ((¬ (x0 = 49)) ∧ ((¬ (x0 = 50)) ∧ ((¬ (x0 = 51)) ∧ ((¬ (x0 = 52)) ∧ ((¬ (x0 = 53)) ∧ ((¬ (x0 = 54)) ∧ ((¬ (x0 = 55)) ∧ ((¬ (x0 = 56)) ∧ ((¬ (x0 = 57)) ∧ ((¬ (x0 = 45)) ∧ (¬ (x0 = 32)))))))))))))) : (x0 ≠ 45) := by first | lia | omega
theorem a432 {x0 x1 : Nat}  (h0 : (x0 < x1)) (h1 : (x0 = x1)) : False := (linF [x0, x1] (.cons 1 (.p (.v 0) (.c 1)) (.v 1) (.cons 1 (.v 1) (.v 0) .nil)) rfl h0 (Nat.le_of_eq (Eq.symm h1)))
theorem a433 {x0 x1 : Nat}  (h0 : (x0 ≤ x1)) (h1 : (x1 ≠ x0)) : ((x0 + 1) ≤ x1) := (Or.elim (neqC h1) (fun u2 => (lin [x0, x1] (.cons 2 (.v 0) (.v 1) (.cons 1 (.p (.v 1) (.c 1)) (.v 0) .nil)) (.p (.v 0) (.c 1)) (.v 1) rfl h0 u2)) (fun u3 => (lin [x0, x1] (.cons 1 (.p (.v 0) (.c 1)) (.v 1) .nil) (.p (.v 0) (.c 1)) (.v 1) rfl u3)))
theorem a434 {x0 : Nat}  (h0 : ((¬ (x0 = 48)) ∧ ((¬ (x0 = 49)) ∧ ((¬ (x0 = 50)) ∧ ((¬ (x0 = 51)) ∧ ((¬ (x0 = 52)) ∧ ((¬ (x0 = 53)) ∧ ((¬ (x0 = 54)) ∧ ((¬ (x0 = 55)) ∧ ((¬ (x0 = 56)) ∧ ((¬ (x0 = 57)) ∧ ((¬ (x0 = 45)) ∧ (¬ (x0 = 32)))))))))))))) : (x0 ≠ 32) := by first | lia | omega
theorem a435 {x0 : Nat}  (h0 : ((48 ≤ x0) ∧ (x0 ≤ 57))) (h1 : ((¬ (x0 = 48)) ∧ ((¬ (x0 = 49)) ∧ ((¬ (x0 = 50)) ∧ ((¬ (x0 = 51)) ∧ ((¬ (x0 = 52)) ∧ ((¬ (x0 = 53)) ∧ ((¬ (x0 = 54)) ∧ ((¬ (x0 = 55)) ∧ ((¬ (x0 = 56)) ∧ ((¬ (x0 = 57)) ∧ ((¬ (x0 = 45)) ∧ (¬ (x0 = 32)))))))))))))) : False := by first | lia | omega
theorem a436 {x0 : Nat}  (h0 : (2 ≤ x0)) : (0 < x0) := (lin [x0] (.cons 1 (.c 2) (.v 0) .nil) (.p (.c 0) (.c 1)) (.v 0) rfl h0)
theorem a437 {x0 x1 : Nat}   : (x0 ≤ ((x1 + (x0 + 1)) - (x1 + 1))) := (lin [x1, x0, ((x1 + (x0 + 1)) - (x1 + 1))] (.cons 1 (.p (.v 0) (.p (.v 1) (.c 1))) (.p (.v 2) (.p (.v 0) (.c 1))) .nil) (.v 1) (.v 2) rfl (subU (x1 + (x0 + 1)) (x1 + 1)))
theorem a438 {x0 : Nat}  (h0 : (x0 ≤ 150)) : (x0 ≤ 1000) := (lin [x0] (.cons 1 (.v 0) (.c 150) .nil) (.v 0) (.c 1000) rfl h0)
theorem a439 {x0 : Nat}   : (x0 < (x0 + 1)) := (lin [x0] .nil (.p (.v 0) (.c 1)) (.p (.v 0) (.c 1)) rfl )
theorem a440 {x0 x1 x2 : Nat}  (h0 : (x1 ≤ 150)) : (((min x0 x1) - x2) ≤ 150) := (lin [x1, ((min x0 x1) - x2), (min x0 x1)] (.cons 1 (.v 0) (.c 150) (.cons 1 (.v 1) (.v 2) (.cons 1 (.v 2) (.v 0) .nil))) (.v 1) (.c 150) rfl h0 (Nat.sub_le (min x0 x1) x2) (Nat.min_le_right x0 x1))
theorem a441 {x0 x1 : Nat}   : ((min x0 x1) ≤ x1) := (lin [(min x0 x1), x1] (.cons 1 (.v 0) (.v 1) .nil) (.v 0) (.v 1) rfl (Nat.min_le_right x0 x1))
theorem a442 {x0 : Nat}  (h0 : (5 ≤ x0)) : (0 < x0) := (lin [x0] (.cons 1 (.c 5) (.v 0) .nil) (.p (.c 0) (.c 1)) (.v 0) rfl h0)
theorem a443 {x0 : Nat} {x1 : Int} (h0 : (x0 ≤ 100)) : ((x0 - (Int.toNat x1)) ≤ 100) := by first | lia | omega
theorem a444 {x0 : Nat}  (h0 : (600 ≤ x0)) : (4 ≤ x0) := (lin [x0] (.cons 1 (.c 600) (.v 0) .nil) (.c 4) (.v 0) rfl h0)
theorem a445 {x0 : Nat}  (h0 : (x0 ≤ 100)) : (x0 ≤ 16777216) := (lin [x0] (.cons 1 (.v 0) (.c 100) .nil) (.v 0) (.c 16777216) rfl h0)
theorem a446 {x0 : Nat}  (h0 : (x0 ≤ 100)) : ((x0 + 1) ≤ 16777216) := (lin [x0] (.cons 1 (.v 0) (.c 100) .nil) (.p (.v 0) (.c 1)) (.c 16777216) rfl h0)
theorem a447 {x0 x1 : Nat}  (h0 : (x0 ≤ 100)) (h1 : (x1 ≤ 100)) : (((x0 + 1) + x1) ≤ 16777216) := (lin [x0, x1] (.cons 1 (.v 0) (.c 100) (.cons 1 (.v 1) (.c 100) .nil)) (.p (.p (.v 0) (.c 1)) (.v 1)) (.c 16777216) rfl h0 h1)
theorem a448 {x0 x1 : Nat}  (h0 : (x0 ≤ 100)) (h1 : (x1 ≤ 100)) : ((((x0 + 1) + x1) + 1) ≤ 16777216) := (lin [x0, x1] (.cons 1 (.v 0) (.c 100) (.cons 1 (.v 1) (.c 100) .nil)) (.p (.p (.p (.v 0) (.c 1)) (.v 1)) (.c 1)) (.c 16777216) rfl h0 h1)
theorem a449 {x0 x1 x2 : Nat}  (h0 : (x0 ≤ 100)) (h1 : (x1 ≤ 100)) (h2 : (x2 ≤ 100)) : (((((x0 + 1) + x1) + 1) + x2) ≤ 16777216) := (lin [x0, x1, x2] (.cons 1 (.v 0) (.c 100) (.cons 1 (.v 1) (.c 100) (.cons 1 (.v 2) (.c 100) .nil))) (.p (.p (.p (.p (.v 0) (.c 1)) (.v 1)) (.c 1)) (.v 2)) (.c 16777216) rfl h0 h1 h2)
theorem a450 {x0 : Nat}   : ((-((2 : Int) ^ 62)) ≤ ((x0 : Nat) : Int)) := by first | lia | omega
theorem a451 {x0 : Nat}  (h0 : (x0 < (2 ^ 62))) : (((x0 : Nat) : Int) < ((2 : Int) ^ 62)) := (Int.ofNat_lt.mpr (lin [x0] (.cons 1 (.p (.v 0) (.c 1)) (.c (2 ^ 62)) .nil) (.p (.v 0) (.c 1)) (.c (2 ^ 62)) rfl h0))
theorem a452 {x0 : Nat}  (h0 : (x0 ≤ 63)) : (x0 < (2 ^ 62)) := (lin [x0] (.cons 1 (.v 0) (.c 63) .nil) (.p (.v 0) (.c 1)) (.c (2 ^ 62)) rfl h0)
theorem a453 {x0 x1 : Nat}  (h0 : ((x0 + 1) < x1)) (h1 : (x1 ≤ 900)) : ((x0 + 1) < (2 ^ 62)) := (lin [x0, x1] (.cons 1 (.p (.p (.v 0) (.c 1)) (.c 1)) (.v 1) (.cons 1 (.v 1) (.c 900) .nil)) (.p (.p (.v 0) (.c 1)) (.c 1)) (.c (2 ^ 62)) rfl h0 h1)
theorem a454 {x0 : Nat}  (h0 : (x0 ≤ 1000)) : ((1 + x0) ≤ 16777216) := (lin [x0] (.cons 1 (.v 0) (.c 1000) .nil) (.p (.c 1) (.v 0)) (.c 16777216) rfl h0)
theorem a455 {x0 : Nat}  (h0 : (x0 ≤ 150)) : (x0 ≤ 16777216) := (lin [x0] (.cons 1 (.v 0) (.c 150) .nil) (.v 0) (.c 16777216) rfl h0)
theorem a457 {x0 : Nat}  (h0 : (x0 < 10)) : (x0 < 14) := (lin [x0] (.cons 1 (.p (.v 0) (.c 1)) (.c 10) .nil) (.p (.v 0) (.c 1)) (.c 14) rfl h0)
theorem a458 {x1 : Nat} {x0 : Int} (h0 : (x0 < ((x1 : Nat) : Int))) (h1 : (x1 ≤ 63)) : (x0 < ((2 : Int) ^ 62)) := by first | lia | omega
theorem a459 {x0 : Nat}  (h0 : (1 ≤ x0)) : ((0 : Int) < ((x0 : Nat) : Int)) := (Int.ofNat_lt.mpr (lin [x0] (.cons 1 (.c 1) (.v 0) .nil) (.p (.c 0) (.c 1)) (.v 0) rfl h0))
theorem a460 {x0 : Nat} {x1 : Int} (h0 : ((0 : Int) ≤ x1)) (h1 : (¬ (x1 < ((x0 : Nat) : Int)))) : (x0 ≤ (Int.toNat x1)) := by first | lia | omega
theorem a461 {x0 x1 : Nat}  (h0 : (x0 < x1)) (h1 : (x1 ≤ 150)) : (((x0 : Nat) : Int) < ((2 : Int) ^ 62)) := (Int.ofNat_lt.mpr (lin [x0, x1] (.cons 1 (.p (.v 0) (.c 1)) (.v 1) (.cons 1 (.v 1) (.c 150) .nil)) (.p (.v 0) (.c 1)) (.c (2 ^ 62)) rfl h0 h1))
theorem a462 {x0 : Nat}  (h0 : (x0 ≤ 901)) : (x0 < (2 ^ 62)) := (lin [x0] (.cons 1 (.v 0) (.c 901) .nil) (.p (.v 0) (.c 1)) (.c (2 ^ 62)) rfl h0)
theorem a463 {x0 : Nat}  (h0 : (5 ≤ x0)) : (3 ≤ (x0 - 1)) := (lin [x0, (x0 - 1)] (.cons 1 (.c 5) (.v 0) (.cons 1 (.v 0) (.p (.v 1) (.c 1)) .nil)) (.c 3) (.v 1) rfl h0 (subU x0 1))
theorem a464 {x0 x1 : Nat}  (h0 : ((x1 + 3) ≤ x0)) : (0 < x0) := (lin [x1, x0] (.cons 1 (.p (.v 0) (.c 3)) (.v 1) .nil) (.p (.c 0) (.c 1)) (.v 1) rfl h0)
theorem a465 {x0 : Nat}  (h0 : (x0 ≤ 61)) : (x0 < (2 ^ 62)) := (lin [x0] (.cons 1 (.v 0) (.c 61) .nil) (.p (.v 0) (.c 1)) (.c (2 ^ 62)) rfl h0)
theorem a466 {x0 : Nat}  (h0 : (decide (((x0 : Nat) : Int) < (10 : Int)) = true)) : (x0 < 10) := (lin [x0] (.cons 1 (.p (.v 0) (.c 1)) (.c 10) .nil) (.p (.v 0) (.c 1)) (.c 10) rfl (Int.ofNat_lt.mp (of_decide_eq_true h0)))
theorem a467 {x0 x1 : Nat}  (h0 : ((x0 + 3) ≤ x1)) : ((x0 + 2) ≤ (x1 - 1)) := (lin [x0, x1, (x1 - 1)] (.cons 1 (.p (.v 0) (.c 3)) (.v 1) (.cons 1 (.v 1) (.p (.v 2) (.c 1)) .nil)) (.p (.v 0) (.c 2)) (.v 2) rfl h0 (subU x1 1))
theorem a469 {x0 : Nat}  (h0 : (decide (((x0 : Nat) : Int) < (10 : Int)) = true)) : (((x0 : Nat) : Int) < ((2 : Int) ^ 62)) := (Int.ofNat_lt.mpr (lin [x0] (.cons 1 (.p (.v 0) (.c 1)) (.c 10) .nil) (.p (.v 0) (.c 1)) (.c (2 ^ 62)) rfl (Int.ofNat_lt.mp (of_decide_eq_true h0))))
theorem a470 {x0 : Nat}  (h0 : (x0 ≤ 102)) : ((x0 + 1) ≤ 16777216) := (lin [x0] (.cons 1 (.v 0) (.c 102) .nil) (.p (.v 0) (.c 1)) (.c 16777216) rfl h0)
theorem a471 {x0 : Nat}  (h0 : (x0 ≤ 102)) : ((x0 + 1) ≤ 1000) := (lin [x0] (.cons 1 (.v 0) (.c 102) .nil) (.p (.v 0) (.c 1)) (.c 1000) rfl h0)
theorem a472 {x0 x1 : Nat}  (h0 : (x0 ≤ 100)) (h1 : (x1 ≤ 40)) : ((x0 + x1) ≤ 16777216) := (lin [x0, x1] (.cons 1 (.v 0) (.c 100) (.cons 1 (.v 1) (.c 40) .nil)) (.p (.v 0) (.v 1)) (.c 16777216) rfl h0 h1)
theorem a473 {x1 : Nat} {x0 : Int} (h0 : ((0 : Int) ≤ (x0 % ((x1 : Nat) : Int)))) : ((0 : Int) ≤ ((1 : Int) + (x0 % ((x1 : Nat) : Int)))) := by first | lia | omega
theorem a474 {x0 : Nat}  (h0 : (x0 ≤ 61)) : (x0 ≤ 100) := (lin [x0] (.cons 1 (.v 0) (.c 61) .nil) (.v 0) (.c 100) rfl h0)
theorem a476 {x0 : Nat}  (h0 : (x0 ≤ 40)) : (x0 ≤ 100) := (lin [x0] (.cons 1 (.v 0) (.c 40) .nil) (.v 0) (.c 100) rfl h0)
theorem a477   : (60 ≤ 60) := (lin [] .nil (.c 60) (.c 60) rfl )
theorem a478 {x0 : Int}  : ((Int.toNat ((1 : Int) + ((x0 / (10 : Int)) % (60 : Int)))) ≤ 60) := by first | lia | omega
theorem a479 {x0 : Nat}  (h0 : (x0 ≤ 901)) : (x0 ≤ 16777216) := (lin [x0] (.cons 1 (.v 0) (.c 901) .nil) (.v 0) (.c 16777216) rfl h0)
theorem a480 {x1 x2 : Nat} {x0 : Int} (h0 : ((((x2 : Nat) : Int) == (19 : Int)) = true)) (h1 : ((0 : Int) ≤ (x0 % ((x1 : Nat) : Int)))) : (1 ≤ (Int.toNat ((1 : Int) + (x0 % ((x1 : Nat) : Int))))) := by first | lia | omega
theorem a483 {x0 : Int}  : ((0 : Int) ≤ ((1 : Int) + ((x0 / (10 : Int)) % (60 : Int)))) := by first | lia | omega
theorem a484 {x0 : Nat}  (h0 : (14 ≤ x0)) (h1 : (x0 < 20)) (h2 : (x0 ≠ 19)) : ((14 ≤ x0) ∧ (x0 < 19)) := (And.intro (lin [x0] (.cons 1 (.c 14) (.v 0) .nil) (.c 14) (.v 0) rfl h0) (Or.elim (neqC h2) (fun u2 => (lin [x0] (.cons 1 (.p (.v 0) (.c 1)) (.c 19) .nil) (.p (.v 0) (.c 1)) (.c 19) rfl u2)) (fun u3 => (lin [x0] (.cons 2 (.p (.v 0) (.c 1)) (.c 20) (.cons 1 (.p (.c 19) (.c 1)) (.v 0) .nil)) (.p (.v 0) (.c 1)) (.c 19) rfl h1 u3))))
theorem a485 {x0 x1 : Nat}  (h0 : ((x1 + 4) ≤ x0)) : (3 ≤ (x0 - 1)) := (lin [x1, x0, (x0 - 1)] (.cons 1 (.p (.v 0) (.c 4)) (.v 1) (.cons 1 (.v 1) (.p (.v 2) (.c 1)) .nil)) (.c 3) (.v 2) rfl h0 (subU x0 1))
theorem a486 {x0 x1 : Nat}  (h0 : ((x0 + 4) ≤ x1)) : ((x0 + 2) ≤ (x1 - 1)) := (lin [x0, x1, (x1 - 1)] (.cons 1 (.p (.v 0) (.c 4)) (.v 1) (.cons 1 (.v 1) (.p (.v 2) (.c 1)) .nil)) (.p (.v 0) (.c 2)) (.v 2) rfl h0 (subU x1 1))
theorem a487 {x0 : Nat}   : ((0 : Int) < (((x0 : Nat) : Int) + (1 : Int))) := (Int.ofNat_lt.mpr (lin [x0] .nil (.p (.c 0) (.c 1)) (.p (.v 0) (.c 1)) rfl ))
theorem a488 {x0 : Nat}  (h0 : ((((x0 : Nat) : Int) == (10 : Int)) = true)) : (10 ≤ x0) := (lin [x0] (.cons 1 (.c 10) (.v 0) .nil) (.c 10) (.v 0) rfl (Nat.le_of_eq (Eq.symm (Int.ofNat_inj.mp (eq_of_beq h0)))))
theorem a489 {x0 : Nat}  (h0 : ((((x0 : Nat) : Int) == (10 : Int)) = true)) : (x0 < 11) := (lin [x0] (.cons 1 (.v 0) (.c 10) .nil) (.p (.v 0) (.c 1)) (.c 11) rfl (Nat.le_of_eq (Int.ofNat_inj.mp (eq_of_beq h0))))
theorem a490 {x0 : Nat}  (h0 : (x0 ≤ 1000)) : (((x0 : Nat) : Int) < ((2 : Int) ^ 62)) := (Int.ofNat_lt.mpr (lin [x0] (.cons 1 (.v 0) (.c 1000) .nil) (.p (.v 0) (.c 1)) (.c (2 ^ 62)) rfl h0))
theorem a491 {x0 x1 : Nat}  (h0 : (x0 ≤ x1)) (h1 : (x1 ≤ 1000)) : (x0 < (2 ^ 62)) := (lin [x0, x1] (.cons 1 (.v 0) (.v 1) (.cons 1 (.v 1) (.c 1000) .nil)) (.p (.v 0) (.c 1)) (.c (2 ^ 62)) rfl h0 h1)
theorem a492 {x0 x1 : Nat}  (h0 : (x0 ≤ x1)) (h1 : (x1 ≤ 1000)) : (x0 ≤ 16777216) := (lin [x0, x1] (.cons 1 (.v 0) (.v 1) (.cons 1 (.v 1) (.c 1000) .nil)) (.v 0) (.c 16777216) rfl h0 h1)
theorem a493 {x0 : Nat}  (h0 : ((((x0 : Nat) : Int) == (11 : Int)) = true)) : (10 ≤ x0) := (lin [x0] (.cons 1 (.c 11) (.v 0) .nil) (.c 10) (.v 0) rfl (Nat.le_of_eq (Eq.symm (Int.ofNat_inj.mp (eq_of_beq h0)))))
theorem a494 {x0 : Nat}  (h0 : ((((x0 : Nat) : Int) == (11 : Int)) = true)) : (x0 < 12) := (lin [x0] (.cons 1 (.v 0) (.c 11) .nil) (.p (.v 0) (.c 1)) (.c 12) rfl (Nat.le_of_eq (Int.ofNat_inj.mp (eq_of_beq h0))))
theorem a495 {x0 : Nat}  (h0 : (x0 ≤ 1000)) : (x0 ≤ 1000000) := (lin [x0] (.cons 1 (.v 0) (.c 1000) .nil) (.v 0) (.c 1000000) rfl h0)
theorem a496 {x0 : Nat}  (h0 : (x0 ≤ 61)) : (x0 ≤ 1000) := (lin [x0] (.cons 1 (.v 0) (.c 61) .nil) (.v 0) (.c 1000) rfl h0)
theorem a497 {x0 : Nat}  (h0 : (3 ≤ x0)) : (2 ≤ x0) := (lin [x0] (.cons 1 (.c 3) (.v 0) .nil) (.c 2) (.v 0) rfl h0)
theorem a498 {x0 x1 : Nat}  (h0 : (x0 < x1)) (h1 : (x1 ≤ 1000)) : (((0 + x0) + 1) ≤ 16777216) := (lin [x0, x1] (.cons 1 (.p (.v 0) (.c 1)) (.v 1) (.cons 1 (.v 1) (.c 1000) .nil)) (.p (.p (.c 0) (.v 0)) (.c 1)) (.c 16777216) rfl h0 h1)
theorem a501 {x0 : Nat}  (h0 : ((x0 < 14) ∨ (x0 = 19))) (h1 : ((¬ ((14 : Int) < ((x0 : Nat) : Int))) ∨ (¬ (((x0 : Nat) : Int) < (19 : Int))))) : (x0 ≠ 14) := (fun u1 => (Or.elim h0 (fun u2 => (linF [x0] (.cons 1 (.c 14) (.v 0) (.cons 1 (.p (.v 0) (.c 1)) (.c 14) .nil)) rfl (Nat.le_of_eq (Eq.symm u1)) u2)) (fun u3 => (linF [x0] (.cons 1 (.v 0) (.c 14) (.cons 1 (.c 19) (.v 0) .nil)) rfl (Nat.le_of_eq u1) (Nat.le_of_eq (Eq.symm u3))))))
theorem a502 {x0 : Nat}  (h0 : ((14 ≤ x0) ∧ (x0 < 19))) (h1 : ((¬ ((14 : Int) < ((x0 : Nat) : Int))) ∨ (¬ (((x0 : Nat) : Int) < (19 : Int))))) : (x0 = 14) := (Or.elim h1 (fun u1 => (Nat.le_antisymm (lin [x0] (.cons 1 (.v 0) (.c 14) .nil) (.v 0) (.c 14) rfl (Nat.le_of_not_lt (fun q => u1 (Int.ofNat_lt.mpr q)))) (lin [x0] (.cons 1 (.c 14) (.v 0) .nil) (.c 14) (.v 0) rfl (And.left h0)))) (fun u2 => (Nat.le_antisymm (False.elim (linF [x0] (.cons 1 (.p (.v 0) (.c 1)) (.c 19) (.cons 1 (.c 19) (.v 0) .nil)) rfl (And.right h0) (Nat.le_of_not_lt (fun q => u2 (Int.ofNat_lt.mpr q))))) (lin [x0] (.cons 1 (.c 19) (.v 0) .nil) (.c 14) (.v 0) rfl (Nat.le_of_not_lt (fun q => u2 (Int.ofNat_lt.mpr q)))))))
theorem a503 {x0 : Nat}  (h0 : (x0 ≤ 102)) : (x0 ≤ 1000) := (lin [x0] (.cons 1 (.v 0) (.c 102) .nil) (.v 0) (.c 1000) rfl h0)
theorem a504 {x0 : Nat}  (h0 : (x0 ≤ 150)) : (x0 ≤ 900) := (lin [x0] (.cons 1 (.v 0) (.c 150) .nil) (.v 0) (.c 900) rfl h0)
theorem a505 {x0 : Nat}  (h0 : (x0 ≤ 60)) : (x0 < (2 ^ 62)) := (lin [x0] (.cons 1 (.v 0) (.c 60) .nil) (.p (.v 0) (.c 1)) (.c (2 ^ 62)) rfl h0)
theorem a506 {x0 x1 : Nat}  (h0 : (x0 ≤ (x1 * (1000 + 1)))) (h1 : (x1 ≤ 900)) : ((x0 + 1) ≤ 16777216) := by first | lia | omega
theorem a507 {x0 : Nat}  (h0 : (x0 ≤ 102)) : ((x0 + 41) ≤ 16777216) := (lin [x0] (.cons 1 (.v 0) (.c 102) .nil) (.p (.v 0) (.c 41)) (.c 16777216) rfl h0)
theorem a508 {x0 : Nat}  (h0 : ((((x0 : Nat) : Int) == (12 : Int)) = true)) : (10 ≤ x0) := (lin [x0] (.cons 1 (.c 12) (.v 0) .nil) (.c 10) (.v 0) rfl (Nat.le_of_eq (Eq.symm (Int.ofNat_inj.mp (eq_of_beq h0)))))
theorem a509 {x0 : Nat}  (h0 : ((((x0 : Nat) : Int) == (12 : Int)) = true)) : (x0 < 13) := (lin [x0] (.cons 1 (.v 0) (.c 12) .nil) (.p (.v 0) (.c 1)) (.c 13) rfl (Nat.le_of_eq (Int.ofNat_inj.mp (eq_of_beq h0))))
theorem a510 {x0 x1 x2 : Nat}  (h0 : (x1 = (x2 + (x0 + 1)))) (h1 : (x1 ≤ 1000)) : (x0 ≤ 1000) := (lin [x2, x0, x1] (.cons 1 (.p (.v 0) (.p (.v 1) (.c 1))) (.v 2) (.cons 1 (.v 2) (.c 1000) .nil)) (.v 1) (.c 1000) rfl (Nat.le_of_eq (Eq.symm h0)) h1)
theorem a511 {x0 : Nat}   : (¬ ((x0 + 41) ≤ 40)) := (fun u1 => (linF [x0] (.cons 1 (.p (.v 0) (.c 41)) (.c 40) .nil) rfl u1))
theorem a512 {x0 : Nat}  (h0 : (x0 ≤ 60)) : (x0 ≤ 640) := (lin [x0] (.cons 1 (.v 0) (.c 60) .nil) (.v 0) (.c 640) rfl h0)
theorem a513 {x0 : Nat}  (h0 : (600 ≤ x0)) : (0 < x0) := (lin [x0] (.cons 1 (.c 600) (.v 0) .nil) (.p (.c 0) (.c 1)) (.v 0) rfl h0)
theorem a514 {x0 : Int} (h0 : (x0 < (0 : Int))) : (((0 : Int) - (((Int.natAbs x0) : Nat) : Int)) = x0) := by first | lia | omega
theorem a515 {x0 : Int} (h0 : (¬ (x0 < (0 : Int)))) : ((((Int.natAbs x0) : Nat) : Int) = x0) := by first | lia | omega
theorem a516 {x0 : Nat}  (h0 : (600 ≤ x0)) : ((41 + 3) ≤ x0) := (lin [x0] (.cons 1 (.c 600) (.v 0) .nil) (.p (.c 41) (.c 3)) (.v 0) rfl h0)
theorem a517 {x0 : Nat}  (h0 : (x0 ≤ 60)) : (((x0 : Nat) : Int) < ((2 : Int) ^ 62)) := (Int.ofNat_lt.mpr (lin [x0] (.cons 1 (.v 0) (.c 60) .nil) (.p (.v 0) (.c 1)) (.c (2 ^ 62)) rfl h0))
theorem a518 {x0 x1 x2 : Nat}  (h0 : (x1 = (x0 + x2))) (h1 : (x1 ≤ 1000)) : (x0 ≤ 1000) := (lin [x0, x2, x1] (.cons 1 (.p (.v 0) (.v 1)) (.v 2) (.cons 1 (.v 2) (.c 1000) .nil)) (.v 0) (.c 1000) rfl (Nat.le_of_eq (Eq.symm h0)) h1)
theorem a519 {x0 : Nat}   : (¬ (((x0 : Nat) : Int) < (0 : Int))) := (fun q => (fun u1 => (linF [x0] (.cons 1 (.p (.v 0) (.c 1)) (.c 0) .nil) rfl u1)) (Int.ofNat_lt.mp q))
theorem a520 {x0 : Nat}   : ((0 : Int) ≤ ((x0 : Nat) : Int)) := (Int.ofNat_le.mpr (lin [x0] .nil (.c 0) (.v 0) rfl ))
theorem a521 {x0 : Nat} {x1 : Int} (h0 : (¬ ((Int.toNat x1) ≤ x0))) : (x0 ≤ (Int.toNat x1)) := by first | lia | omega
theorem a522 {x0 : Nat}   : ((0 : Int) ≤ (((x0 : Nat) : Int) + (1 : Int))) := (Int.ofNat_le.mpr (lin [x0] .nil (.c 0) (.p (.v 0) (.c 1)) rfl ))
theorem a523 {x0 : Nat}   : (¬ ((((x0 : Nat) : Int) + (1 : Int)) < (0 : Int))) := (fun q => (fun u1 => (linF [x0] (.cons 1 (.p (.p (.v 0) (.c 1)) (.c 1)) (.c 0) .nil) rfl u1)) (Int.ofNat_lt.mp q))
theorem a524 {x0 : Nat}  (h0 : (¬ ((((x0 : Nat) : Int) + (1 : Int)) < (0 : Int)))) : ((Int.toNat (((x0 : Nat) : Int) + (1 : Int))) = (x0 + 1)) := by first | lia | omega
theorem a525 {x0 x1 : Nat}  (h0 : (¬ (x0 < x1))) : ((min x0 x1) = x1) := (Nat.le_antisymm (lin [(min x0 x1), x1] (.cons 1 (.v 0) (.v 1) .nil) (.v 0) (.v 1) rfl (Nat.min_le_right x0 x1)) (lin [x1, (min x0 x1)] (.cons 1 (.v 0) (.v 1) .nil) (.v 0) (.v 1) rfl (minB (lin [x1, x0] (.cons 1 (.v 0) (.v 1) .nil) (.v 0) (.v 1) rfl (Nat.le_of_not_lt h0)))))
theorem a526 {x0 x1 : Nat}   : ((min (min (x0 + 1) x1) x1) ≤ x1) := (lin [(min (min (x0 + 1) x1) x1), x1] (.cons 1 (.v 0) (.v 1) .nil) (.v 0) (.v 1) rfl (Nat.min_le_right (min (x0 + 1) x1) x1))
theorem a527 {x0 : Nat}   : (¬ (x0 < 0)) := (fun u1 => (linF [x0] (.cons 1 (.p (.v 0) (.c 1)) (.c 0) .nil) rfl u1))
theorem a528 {x0 x1 x2 : Nat}  (h0 : (0 < x1)) (h1 : (x0 ≤ x2)) : ((x0 + 1) ≤ (x1 + x2)) := (lin [x1, x0, x2] (.cons 1 (.p (.c 0) (.c 1)) (.v 0) (.cons 1 (.v 1) (.v 2) .nil)) (.p (.v 1) (.c 1)) (.p (.v 0) (.v 2)) rfl h0 h1)
theorem a529 {x0 : Nat}   : (2 ≤ ((3 * (x0 + 1)) + 1)) := (lin [x0] .nil (.c 2) (.p (.m 3 (.p (.v 0) (.c 1))) (.c 1)) rfl )
theorem a530 {x0 x1 : Nat}  (h0 : (x1 < x0)) : (1 ≤ x0) := (lin [x1, x0] (.cons 1 (.p (.v 0) (.c 1)) (.v 1) .nil) (.c 1) (.v 1) rfl h0)
theorem a531 {x0 : Nat}  (h0 : ((x0 + 1) ≤ 300)) : (x0 ≤ 300) := (lin [x0] (.cons 1 (.p (.v 0) (.c 1)) (.c 300) .nil) (.v 0) (.c 300) rfl h0)
theorem a532 {x0 x1 x2 : Nat}  (h0 : (x0 ≤ x2)) (h1 : (x1 = 16777216)) (h2 : (x2 ≤ 1000)) : (x0 ≤ x1) := (lin [x0, x2, x1] (.cons 1 (.v 0) (.v 1) (.cons 1 (.c 16777216) (.v 2) (.cons 1 (.v 1) (.c 1000) .nil))) (.v 0) (.v 2) rfl h0 (Nat.le_of_eq (Eq.symm h1)) h2)
theorem a533 {x0 x1 x2 : Nat}  (h0 : (1 ≤ x2)) (h1 : (x0 < (x2 + 1))) : ((x0 - (x1 + 1)) < x2) := (Or.elim (Nat.le_total x0 (x1 + 1)) (fun u2 => (lin [x2, (x0 - (x1 + 1))] (.cons 1 (.c 1) (.v 0) (.cons 1 (.v 1) (.c 0) .nil)) (.p (.v 1) (.c 1)) (.v 0) rfl h0 (subZ u2))) (fun u3 => (lin [x0, x2, (x0 - (x1 + 1)), x1] (.cons 1 (.p (.v 0) (.c 1)) (.p (.v 1) (.c 1)) (.cons 1 (.p (.v 2) (.p (.v 3) (.c 1))) (.v 0) .nil)) (.p (.v 2) (.c 1)) (.v 1) rfl h1 (subE u3))))
theorem a534 {x0 x1 : Nat}  (h0 : (x0 ≤ x1)) (h1 : (x1 ≤ 1000)) : (x0 ≤ 1000) := (lin [x0, x1] (.cons 1 (.v 0) (.v 1) (.cons 1 (.v 1) (.c 1000) .nil)) (.v 0) (.c 1000) rfl h0 h1)
theorem a535 {x0 : Nat}  (h0 : (x0 ≤ 1000)) : (x0 < (2 ^ 62)) := (lin [x0] (.cons 1 (.v 0) (.c 1000) .nil) (.p (.v 0) (.c 1)) (.c (2 ^ 62)) rfl h0)
theorem a536 {x0 x1 x2 x3 x4 : Nat}  (h0 : ((((x0 : Nat) : Int) < ((x1 : Nat) : Int)) ∧ ((((x0 : Nat) : Int) < ((x2 : Nat) : Int)) ∧ (x3 = x4)))) : (x0 < x1) := (lin [x0, x1] (.cons 1 (.p (.v 0) (.c 1)) (.v 1) .nil) (.p (.v 0) (.c 1)) (.v 1) rfl (Int.ofNat_lt.mp (And.left h0)))
theorem a537 {x0 x1 x2 x3 x4 : Nat}  (h0 : ((((x0 : Nat) : Int) < ((x2 : Nat) : Int)) ∧ ((((x0 : Nat) : Int) < ((x1 : Nat) : Int)) ∧ (x3 = x4)))) : (x0 < x1) := (lin [x0, x1] (.cons 1 (.p (.v 0) (.c 1)) (.v 1) .nil) (.p (.v 0) (.c 1)) (.v 1) rfl (Int.ofNat_lt.mp (And.left (And.right h0))))
theorem a538 {x0 x1 x2 x3 x4 : Nat}  (h0 : ((((x1 : Nat) : Int) < ((x0 : Nat) : Int)) ∧ ((((x1 : Nat) : Int) < ((x2 : Nat) : Int)) ∧ (x3 = x4)))) : ((x0 - (x1 + 1)) < (x0 - x1)) := (lin [x0, (x0 - x1), x1, (x0 - (x1 + 1))] (.cons 1 (.v 0) (.p (.v 1) (.v 2)) (.cons 1 (.p (.v 3) (.p (.v 2) (.c 1))) (.v 0) .nil)) (.p (.v 3) (.c 1)) (.v 1) rfl (subU x0 x1) (subE (lin [x1, x0] (.cons 1 (.p (.v 0) (.c 1)) (.v 1) .nil) (.p (.v 0) (.c 1)) (.v 1) rfl (Int.ofNat_lt.mp (And.left h0)))))
theorem a539 {x0 x1 x2 x3 x4 : Nat}  (h0 : ((x0 < x1) ∧ ((x0 < x2) ∧ (x3 = x4)))) : (((x0 : Nat) : Int) < ((x1 : Nat) : Int)) := (Int.ofNat_lt.mpr (lin [x0, x1] (.cons 1 (.p (.v 0) (.c 1)) (.v 1) .nil) (.p (.v 0) (.c 1)) (.v 1) rfl (And.left h0)))
theorem a540 {x0 x1 x2 x3 x4 : Nat}  (h0 : ((x0 < x2) ∧ ((x0 < x1) ∧ (x3 = x4)))) : (((x0 : Nat) : Int) < ((x1 : Nat) : Int)) := (Int.ofNat_lt.mpr (lin [x0, x1] (.cons 1 (.p (.v 0) (.c 1)) (.v 1) .nil) (.p (.v 0) (.c 1)) (.v 1) rfl (And.left (And.right h0))))
theorem a541 {x0 : Nat}  (h0 : (x0 ≤ 900)) : (x0 ≤ 1000) := (lin [x0] (.cons 1 (.v 0) (.c 900) .nil) (.v 0) (.c 1000) rfl h0)
theorem a542 {x0 : Nat}  (h0 : (x0 ≤ 900)) : (x0 < (2 ^ 62)) := (lin [x0] (.cons 1 (.v 0) (.c 900) .nil) (.p (.v 0) (.c 1)) (.c (2 ^ 62)) rfl h0)
theorem a543 {x0 x1 : Nat}  (h0 : (x1 ≤ x0)) : (x0 = (x1 + (x0 - x1))) := (Nat.le_antisymm (lin [x0, (x0 - x1), x1] (.cons 1 (.v 0) (.p (.v 1) (.v 2)) .nil) (.v 0) (.p (.v 2) (.v 1)) rfl (subU x0 x1)) (lin [(x0 - x1), x1, x0] (.cons 1 (.p (.v 0) (.v 1)) (.v 2) .nil) (.p (.v 1) (.v 0)) (.v 2) rfl (subE (lin [x1, x0] (.cons 1 (.v 0) (.v 1) .nil) (.v 0) (.v 1) rfl h0))))
theorem a544 {x0 x1 : Nat}  (h0 : (((x1 + 1) + 1) ≤ x0)) : (0 < x0) := (lin [x1, x0] (.cons 1 (.p (.p (.v 0) (.c 1)) (.c 1)) (.v 1) .nil) (.p (.c 0) (.c 1)) (.v 1) rfl h0)
theorem a545 {x0 : Nat}  (h0 : (0 < x0)) : ((0 : Int) < ((x0 : Nat) : Int)) := (Int.ofNat_lt.mpr (lin [x0] (.cons 1 (.p (.c 0) (.c 1)) (.v 0) .nil) (.p (.c 0) (.c 1)) (.v 0) rfl h0))
theorem a546 {x0 : Int}  : ((Int.toNat (x0 % (94 : Int))) < 94) := by first | lia | omega
theorem a547 {x0 x1 : Nat}  (h0 : ((x1 + 2) ≤ x0)) : (0 < x0) := (lin [x1, x0] (.cons 1 (.p (.v 0) (.c 2)) (.v 1) .nil) (.p (.c 0) (.c 1)) (.v 1) rfl h0)
theorem a548 {x0 x1 : Nat}  (h0 : ((x0 + 1) < (x1 + 1))) : (x0 < x1) := (lin [x0, x1] (.cons 1 (.p (.p (.v 0) (.c 1)) (.c 1)) (.p (.v 1) (.c 1)) .nil) (.p (.v 0) (.c 1)) (.v 1) rfl h0)
theorem a549 {x0 : Nat}  (h0 : (x0 ≤ 300)) : ((0 + (301 * x0)) ≤ 200000) := (Nat.le_of_not_lt fun u1 => (linF [x0] (.cons 301 (.v 0) (.c 300) (.cons 1 (.p (.c 200000) (.c 1)) (.p (.c 0) (.m 301 (.v 0))) .nil)) rfl h0 u1))
theorem a550 {x0 : Nat}  (h0 : (600 ≤ x0)) : ((41 + 1) ≤ x0) := (lin [x0] (.cons 1 (.c 600) (.v 0) .nil) (.p (.c 41) (.c 1)) (.v 0) rfl h0)
theorem a551 {x0 : Nat}  (h0 : (x0 ≤ 1000)) : ((0 + x0) ≤ 10000) := (lin [x0] (.cons 1 (.v 0) (.c 1000) .nil) (.p (.c 0) (.v 0)) (.c 10000) rfl h0)
theorem a552 {x0 x1 : Nat}  (h0 : ((x0 + 2) ≤ x1)) : ((x0 + 1) ≤ (x1 - 1)) := (lin [x0, x1, (x1 - 1)] (.cons 1 (.p (.v 0) (.c 2)) (.v 1) (.cons 1 (.v 1) (.p (.v 2) (.c 1)) .nil)) (.p (.v 0) (.c 1)) (.v 2) rfl h0 (subU x1 1))
theorem a553 {x0 x1 : Int} (h0 : ((Int.toNat (x0 % (94 : Int))) = (Int.toNat (x1 % (94 : Int))))) : ((x0 % (94 : Int)) = (x1 % (94 : Int))) := by first | lia | omega
theorem a554 {x0 x1 x2 : Nat}  (h0 : ((x0 + (301 * (x2 + 1))) ≤ 200000)) (h1 : (x1 < (x2 + 1))) : ((x0 + x1) ≤ 16777216) := (lin [x0, x2, x1] (.cons 1 (.p (.v 0) (.m 301 (.p (.v 1) (.c 1)))) (.c 200000) (.cons 1 (.p (.v 2) (.c 1)) (.p (.v 1) (.c 1)) .nil)) (.p (.v 0) (.v 2)) (.c 16777216) rfl h0 h1)
theorem a555 {x0 : Nat}  (h0 : ((x0 + 1) ≤ 10000)) : (x0 ≤ 16777216) := (lin [x0] (.cons 1 (.p (.v 0) (.c 1)) (.c 10000) .nil) (.v 0) (.c 16777216) rfl h0)
theorem a556 {x0 : Nat}  (h0 : (x0 ≤ 150)) : ((x0 + 1) ≤ 16777216) := (lin [x0] (.cons 1 (.v 0) (.c 150) .nil) (.p (.v 0) (.c 1)) (.c 16777216) rfl h0)
theorem a557 {x0 x1 : Nat}  (h0 : (x0 ≤ 150)) (h1 : (x1 ≤ 150)) : (((x0 + 1) + x1) ≤ 16777216) := (lin [x0, x1] (.cons 1 (.v 0) (.c 150) (.cons 1 (.v 1) (.c 150) .nil)) (.p (.p (.v 0) (.c 1)) (.v 1)) (.c 16777216) rfl h0 h1)
theorem a558 {x0 : Nat}  (h0 : (decide ((0 : Int) < ((x0 : Nat) : Int)) = true)) : (x0 = ((x0 - 1) + 1)) := (Nat.le_antisymm (lin [x0, (x0 - 1)] (.cons 1 (.v 0) (.p (.v 1) (.c 1)) .nil) (.v 0) (.p (.v 1) (.c 1)) rfl (subU x0 1)) (lin [(x0 - 1), x0] (.cons 1 (.p (.v 0) (.c 1)) (.v 1) .nil) (.p (.v 0) (.c 1)) (.v 1) rfl (subE (lin [x0] (.cons 1 (.p (.c 0) (.c 1)) (.v 0) .nil) (.c 1) (.v 0) rfl (Int.ofNat_lt.mp (of_decide_eq_true h0))))))
theorem a559 {x0 : Nat}  (h0 : (5 ≤ x0)) : (4 ≤ (x0 - 1)) := (lin [x0, (x0 - 1)] (.cons 1 (.c 5) (.v 0) (.cons 1 (.v 0) (.p (.v 1) (.c 1)) .nil)) (.c 4) (.v 1) rfl h0 (subU x0 1))
theorem a560 {x0 x1 : Nat}  (h0 : (((x1 + 1) + 1) ≤ x0)) : (0 < (x0 - 1)) := (lin [x1, x0, (x0 - 1)] (.cons 1 (.p (.p (.v 0) (.c 1)) (.c 1)) (.v 1) (.cons 1 (.v 1) (.p (.v 2) (.c 1)) .nil)) (.p (.c 0) (.c 1)) (.v 2) rfl h0 (subU x0 1))
theorem a561 {x0 : Nat}   : ((min 1 x0) ≤ 1) := (lin [(min 1 x0)] (.cons 1 (.v 0) (.c 1) .nil) (.v 0) (.c 1) rfl (Nat.min_le_left 1 x0))
theorem a562 {x0 x1 x2 : Nat}  (h0 : ((x2 + 1) ≤ 300)) (h1 : (x1 < (x2 + 1))) : ((min x0 x1) ≤ 1000) := (lin [x2, x1, (min x0 x1)] (.cons 1 (.p (.v 0) (.c 1)) (.c 300) (.cons 1 (.p (.v 1) (.c 1)) (.p (.v 0) (.c 1)) (.cons 1 (.v 2) (.v 1) .nil))) (.v 2) (.c 1000) rfl h0 h1 (Nat.min_le_right x0 x1))
theorem a563 {x0 x1 : Nat}  (h0 : ((x1 + 1) < x0)) (h1 : (x0 ≤ 150)) : ((x0 - ((x1 + 1) + 1)) ≤ 150) := (lin [x0, (x0 - ((x1 + 1) + 1)), x1] (.cons 1 (.v 0) (.c 150) (.cons 1 (.p (.v 1) (.p (.p (.v 2) (.c 1)) (.c 1))) (.v 0) .nil)) (.v 1) (.c 150) rfl h1 (subE (lin [x1, x0] (.cons 1 (.p (.p (.v 0) (.c 1)) (.c 1)) (.v 1) .nil) (.p (.p (.v 0) (.c 1)) (.c 1)) (.v 1) rfl h0)))
theorem a564 {x0 x1 x2 : Nat}  (h0 : ((x0 + 1) < x2)) (h1 : (x1 ≤ 150)) (h2 : (x2 ≤ 150)) : ((x0 + (((x1 + 1) + 1) + 1)) ≤ 400) := (lin [x0, x2, x1] (.cons 1 (.p (.p (.v 0) (.c 1)) (.c 1)) (.v 1) (.cons 1 (.v 2) (.c 150) (.cons 1 (.v 1) (.c 150) .nil))) (.p (.v 0) (.p (.p (.p (.v 2) (.c 1)) (.c 1)) (.c 1))) (.c 400) rfl h0 h1 h2)
theorem a565 {x0 : Nat}   : ((0 : Int) ≤ ((((x0 + 1) : Nat) : Int) - (1 : Int))) := by first | lia | omega
theorem a566 {x0 : Nat}   : ((Int.toNat ((((x0 + 1) : Nat) : Int) - (1 : Int))) = x0) := by first | lia | omega
theorem a567 {x0 x1 : Nat}  (h0 : (((x0 + 1) + 1) ≤ x1)) : ((x0 + 1) ≤ (x1 - 1)) := (lin [x0, x1, (x1 - 1)] (.cons 1 (.p (.p (.v 0) (.c 1)) (.c 1)) (.v 1) (.cons 1 (.v 1) (.p (.v 2) (.c 1)) .nil)) (.p (.v 0) (.c 1)) (.v 2) rfl h0 (subU x1 1))
theorem a568 {x0 : Nat}   : ((0 : Int) ≤ ((((x0 + 1) : Nat) : Int) + (2 : Int))) := (Int.ofNat_le.mpr (lin [x0] .nil (.c 0) (.p (.p (.v 0) (.c 1)) (.c 2)) rfl ))
theorem a569 {x0 : Nat}   : ((Int.toNat ((((x0 + 1) : Nat) : Int) + (2 : Int))) = (x0 + 3)) := by first | lia | omega
theorem a570 {x0 x1 x2 x3 x4 : Nat}  (h0 : ((x0 + (301 * (x4 + 1))) ≤ 200000)) (h1 : ((x4 + 1) ≤ 300)) (h2 : (x2 < (x4 + 1))) (h3 : (x3 ≤ 1)) : ((((x0 + (min x1 x2)) + x3) + (301 * x4)) ≤ 200000) := (lin [x0, x4, x2, x3, (min x1 x2)] (.cons 1 (.p (.v 0) (.m 301 (.p (.v 1) (.c 1)))) (.c 200000) (.cons 1 (.p (.v 1) (.c 1)) (.c 300) (.cons 1 (.p (.v 2) (.c 1)) (.p (.v 1) (.c 1)) (.cons 1 (.v 3) (.c 1) (.cons 1 (.v 4) (.v 2) .nil))))) (.p (.p (.p (.v 0) (.v 4)) (.v 3)) (.m 301 (.v 1))) (.c 200000) rfl h0 h1 h2 h3 (Nat.min_le_right x1 x2))
theorem a571 {x0 x1 x2 x3 x4 : Nat}  (h0 : ((x0 + x3) ≤ 10000)) (h1 : (x4 = (x1 + x2))) (h2 : (x4 ≤ x3)) : (((x0 + x1) + x2) ≤ 10000) := (lin [x0, x3, x1, x2, x4] (.cons 1 (.p (.v 0) (.v 1)) (.c 10000) (.cons 1 (.p (.v 2) (.v 3)) (.v 4) (.cons 1 (.v 4) (.v 1) .nil))) (.p (.p (.v 0) (.v 2)) (.v 3)) (.c 10000) rfl h0 (Nat.le_of_eq (Eq.symm h1)) h2)
theorem a572 {x0 x1 x2 : Nat}  (h0 : ((x0 + (301 * (x2 + 1))) ≤ 200000)) (h1 : (x1 ≤ 1000)) : ((x0 + x1) ≤ 16777216) := (lin [x0, x2, x1] (.cons 1 (.p (.v 0) (.m 301 (.p (.v 1) (.c 1)))) (.c 200000) (.cons 1 (.v 2) (.c 1000) .nil)) (.p (.v 0) (.v 2)) (.c 16777216) rfl h0 h1)
theorem a573 {x0 : Int}  : ((Int.natAbs (((x0 / (5 : Int)) % (39 : Int)) - (19 : Int))) < 40) := by first | lia | omega
theorem a574 {x0 : Nat}  (h0 : (4 ≤ x0)) : (0 < x0) := (lin [x0] (.cons 1 (.c 4) (.v 0) .nil) (.p (.c 0) (.c 1)) (.v 0) rfl h0)
theorem a575 {x2 : Nat} {x0 x1 : Int} (h0 : ((0 : Int) ≤ x0)) (h1 : (x0 < ((x2 : Nat) : Int))) : (((0 : Int) ≤ ((x0 * (10 : Int)) + ((x1 / (7 : Int)) % (10 : Int)))) ∧ (((x0 * (10 : Int)) + ((x1 / (7 : Int)) % (10 : Int))) < (((x2 * 10) : Nat) : Int))) := by first | lia | omega
theorem a576 {x0 x1 x2 x3 : Nat}  (h0 : ((x0 + (301 * (x3 + 1))) ≤ 200000)) (h1 : (x1 ≤ 1000)) (h2 : (x2 ≤ 1)) : (((x0 + x1) + x2) ≤ 16777216) := (lin [x0, x3, x1, x2] (.cons 1 (.p (.v 0) (.m 301 (.p (.v 1) (.c 1)))) (.c 200000) (.cons 1 (.v 2) (.c 1000) (.cons 1 (.v 3) (.c 1) .nil))) (.p (.p (.v 0) (.v 2)) (.v 3)) (.c 16777216) rfl h0 h1 h2)
theorem a577 {x0 : Nat}  (h0 : (600 ≤ x0)) : ((124 + 1) ≤ x0) := (lin [x0] (.cons 1 (.c 600) (.v 0) .nil) (.p (.c 124) (.c 1)) (.v 0) rfl h0)
theorem a578 {x0 : Nat}  (h0 : (600 ≤ x0)) : ((41 + 4) ≤ x0) := (lin [x0] (.cons 1 (.c 600) (.v 0) .nil) (.p (.c 41) (.c 4)) (.v 0) rfl h0)
theorem a579 {x0 x1 : Nat}  (h0 : (41 ≤ x1)) (h1 : (x0 ≤ 40)) : (x0 < x1) := (lin [x1, x0] (.cons 1 (.c 41) (.v 0) (.cons 1 (.v 1) (.c 40) .nil)) (.p (.v 1) (.c 1)) (.v 0) rfl h0 h1)
theorem a580 {x0 : Nat}  (h0 : (x0 ≤ 400)) : (x0 ≤ 16777216) := (lin [x0] (.cons 1 (.v 0) (.c 400) .nil) (.v 0) (.c 16777216) rfl h0)
theorem a581 {x0 x1 : Nat}  (h0 : ((x0 + 1) < x1)) (h1 : (x1 ≤ 150)) : ((((x0 + 1) : Nat) : Int) < ((2 : Int) ^ 62)) := (Int.ofNat_lt.mpr (lin [x0, x1] (.cons 1 (.p (.p (.v 0) (.c 1)) (.c 1)) (.v 1) (.cons 1 (.v 1) (.c 150) .nil)) (.p (.p (.v 0) (.c 1)) (.c 1)) (.c (2 ^ 62)) rfl h0 h1))
theorem a582 {x0 : Int}  : ((Int.toNat ((x0 / (54 : Int)) % (151 : Int))) ≤ 150) := by first | lia | omega
theorem a583 {x0 : Int}  : ((Int.toNat (x0 % (9 : Int))) ≤ 150) := by first | lia | omega
theorem a584 {x0 x1 : Nat}  (h0 : ((x0 + 1) < x1)) (h1 : (x1 ≤ 150)) : (((((x0 + 1) : Nat) : Int) - (1 : Int)) < ((2 : Int) ^ 62)) := by first | lia | omega
theorem a585 {x0 : Int}  : ((Int.toNat (x0 % (5 : Int))) < 5) := by first | lia | omega
theorem a586 {x0 x1 : Nat}  (h0 : ((x0 + 1) < x1)) (h1 : (x1 ≤ 150)) : ((x0 + 2) ≤ 16777216) := (lin [x0, x1] (.cons 1 (.p (.p (.v 0) (.c 1)) (.c 1)) (.v 1) (.cons 1 (.v 1) (.c 150) .nil)) (.p (.v 0) (.c 2)) (.c 16777216) rfl h0 h1)
theorem a587 {x0 x1 x2 : Nat}  (h0 : ((x0 + 1) < x2)) (h1 : (x1 ≤ 150)) (h2 : (x2 ≤ 150)) : (((x0 + 2) + x1) ≤ 16777216) := (lin [x0, x2, x1] (.cons 1 (.p (.p (.v 0) (.c 1)) (.c 1)) (.v 1) (.cons 1 (.v 2) (.c 150) (.cons 1 (.v 1) (.c 150) .nil))) (.p (.p (.v 0) (.c 2)) (.v 2)) (.c 16777216) rfl h0 h1 h2)
theorem a588 {x0 x1 x2 x3 : Nat}  (h0 : (x0 = x2)) (h1 : (x1 ≤ 10000)) (h2 : (x2 ≤ (min x3 x1))) : (x0 ≤ 10000) := (lin [x0, x2, x1, (min x3 x1)] (.cons 1 (.v 0) (.v 1) (.cons 1 (.v 2) (.c 10000) (.cons 1 (.v 3) (.v 2) (.cons 1 (.v 1) (.v 3) .nil)))) (.v 0) (.c 10000) rfl (Nat.le_of_eq h0) h1 (Nat.min_le_right x3 x1) h2)
theorem a589 {x0 x1 x2 : Nat}  (h0 : (x0 ≤ (min x2 x1))) (h1 : (x1 ≤ 10000)) : (x0 ≤ 10000) := (lin [(min x2 x1), x1, x0] (.cons 1 (.v 0) (.v 1) (.cons 1 (.v 2) (.v 0) (.cons 1 (.v 1) (.c 10000) .nil))) (.v 2) (.c 10000) rfl (Nat.min_le_right x2 x1) h0 h1)
theorem a590 {x0 x1 : Nat}  (h0 : ((x0 + 1) < x1)) (h1 : (x1 ≤ 150)) : ((((min x0 x1) + 1) + ((x1 - ((x0 + 1) + 1)) + 1)) ≤ 900) := (lin [x1, (min x0 x1), x0, (x1 - ((x0 + 1) + 1))] (.cons 1 (.v 0) (.c 150) (.cons 1 (.v 1) (.v 2) (.cons 1 (.p (.v 3) (.p (.p (.v 2) (.c 1)) (.c 1))) (.v 0) .nil))) (.p (.p (.v 1) (.c 1)) (.p (.v 3) (.c 1))) (.c 900) rfl h1 (Nat.min_le_left x0 x1) (subE (lin [x0, x1] (.cons 1 (.p (.p (.v 0) (.c 1)) (.c 1)) (.v 1) .nil) (.p (.p (.v 0) (.c 1)) (.c 1)) (.v 1) rfl h0)))
theorem a591 {x0 x1 : Nat}  (h0 : ((x0 + 1) < x1)) (h1 : (x1 ≤ 150)) : (((min x0 x1) + (x1 - ((x0 + 1) + 1))) ≤ 500) := (lin [x1, (min x0 x1), x0, (x1 - ((x0 + 1) + 1))] (.cons 1 (.v 0) (.c 150) (.cons 1 (.v 1) (.v 2) (.cons 1 (.p (.v 3) (.p (.p (.v 2) (.c 1)) (.c 1))) (.v 0) .nil))) (.p (.v 1) (.v 3)) (.c 500) rfl h1 (Nat.min_le_left x0 x1) (subE (lin [x0, x1] (.cons 1 (.p (.p (.v 0) (.c 1)) (.c 1)) (.v 1) .nil) (.p (.p (.v 0) (.c 1)) (.c 1)) (.v 1) rfl h0)))
theorem a594 {x0 x1 x2 : Nat}  (h0 : (x0 < (min x1 x2))) : (x0 < x1) := (lin [(min x1 x2), x1, x0] (.cons 1 (.v 0) (.v 1) (.cons 1 (.p (.v 2) (.c 1)) (.v 0) .nil)) (.p (.v 2) (.c 1)) (.v 1) rfl (Nat.min_le_left x1 x2) h0)
theorem a595 {x0 x1 x2 : Nat}  (h0 : ((x2 + 1) < x1)) (h1 : (x0 < x2)) : (x0 < x1) := (lin [x2, x1, x0] (.cons 1 (.p (.p (.v 0) (.c 1)) (.c 1)) (.v 1) (.cons 1 (.p (.v 2) (.c 1)) (.v 0) .nil)) (.p (.v 2) (.c 1)) (.v 1) rfl h0 h1)
theorem a597 {x0 : Nat}  (h0 : (x0 ≤ 150)) : ((((min 0 x0) + 1) + (x0 - 0)) ≤ 900) := (lin [x0, (min 0 x0), (x0 - 0)] (.cons 1 (.v 0) (.c 150) (.cons 1 (.v 1) (.c 0) (.cons 1 (.p (.v 2) (.c 0)) (.v 0) .nil))) (.p (.p (.v 1) (.c 1)) (.v 2)) (.c 900) rfl h0 (Nat.min_le_left 0 x0) (subE (lin [x0] .nil (.c 0) (.v 0) rfl )))
theorem a598 {x0 : Nat}  (h0 : (0 < x0)) (h1 : (x0 ≤ 150)) : ((0 + (x0 - 1)) ≤ 500) := (lin [x0, (x0 - 1)] (.cons 1 (.v 0) (.c 150) (.cons 1 (.p (.v 1) (.c 1)) (.v 0) .nil)) (.p (.c 0) (.v 1)) (.c 500) rfl h1 (subE (lin [x0] (.cons 1 (.p (.c 0) (.c 1)) (.v 0) .nil) (.c 1) (.v 0) rfl h0)))
theorem a599 {x0 x1 : Nat}  (h0 : ((((x0 : Nat) : Int) == (1 : Int)) = true)) (h1 : (2 ≤ x1)) (h2 : (x0 = x1)) : False := (linF [x0, x1] (.cons 1 (.v 0) (.c 1) (.cons 1 (.c 2) (.v 1) (.cons 1 (.v 1) (.v 0) .nil))) rfl (Nat.le_of_eq (Int.ofNat_inj.mp (eq_of_beq h0))) h1 (Nat.le_of_eq (Eq.symm h2)))
theorem a600 {x0 : Nat}   : ((Int.toNat (min ((x0 : Nat) : Int) (41 : Int))) = (min x0 41)) := by first | lia | omega
theorem a601 {x0 : Nat}  (h0 : ((Int.toNat (min ((x0 : Nat) : Int) (41 : Int))) = (min x0 41))) : ((-((2 : Int) ^ 62)) ≤ (min ((x0 : Nat) : Int) (41 : Int))) := by first | lia | omega
theorem a602 {x0 : Nat}  (h0 : ((Int.toNat (min ((x0 : Nat) : Int) (41 : Int))) = (min x0 41))) : ((min ((x0 : Nat) : Int) (41 : Int)) < ((2 : Int) ^ 62)) := by first | lia | omega
theorem a603 {x0 x1 : Nat}   : (x0 < (x0 + (x1 + 1))) := (lin [x0, x1] .nil (.p (.v 0) (.c 1)) (.p (.v 0) (.p (.v 1) (.c 1))) rfl )
theorem a604 {x0 : Nat}  (h0 : ((Int.toNat (min ((x0 : Nat) : Int) (41 : Int))) = (min x0 41))) : ((Int.toNat (min ((x0 : Nat) : Int) (41 : Int))) ≤ 16777216) := by first | lia | omega
theorem a605 {x1 x2 : Nat} {x0 : Int} (h0 : ((0 : Int) ≤ x0)) (h1 : (x0 < ((x2 : Nat) : Int))) (h2 : (x2 ≤ x1)) : ((Int.natAbs ((1 : Int) * x0)) < x1) := by first | lia | omega
theorem a606 {x0 x1 : Nat}  (h0 : ((x1 + 1) ≤ 300)) (h1 : (x0 < (x1 + 1))) : (x0 ≤ 1000) := (lin [x1, x0] (.cons 1 (.p (.v 0) (.c 1)) (.c 300) (.cons 1 (.p (.v 1) (.c 1)) (.p (.v 0) (.c 1)) .nil)) (.v 1) (.c 1000) rfl h0 h1)
theorem a607 {x1 x2 : Nat} {x0 : Int} (h0 : ((0 : Int) ≤ x0)) (h1 : (x0 < ((x2 : Nat) : Int))) (h2 : (x2 ≤ x1)) : ((Int.natAbs ((-(1 : Int)) * x0)) < x1) := by first | lia | omega
theorem a608 {x0 : Nat}  (h0 : (4 ≤ x0)) : (3 ≤ (x0 - 1)) := (lin [x0, (x0 - 1)] (.cons 1 (.c 4) (.v 0) (.cons 1 (.v 0) (.p (.v 1) (.c 1)) .nil)) (.c 3) (.v 1) rfl h0 (subU x0 1))
theorem a609 {x0 : Nat}  (h0 : (x0 = 40)) : (x0 ≤ 16777216) := (lin [x0] (.cons 1 (.v 0) (.c 40) .nil) (.v 0) (.c 16777216) rfl (Nat.le_of_eq h0))
theorem a610 {x0 : Nat}  (h0 : (x0 ≤ 10000)) : (x0 < (2 ^ 62)) := (lin [x0] (.cons 1 (.v 0) (.c 10000) .nil) (.p (.v 0) (.c 1)) (.c (2 ^ 62)) rfl h0)
theorem a611 {x0 x1 : Nat}  (h0 : ((x0 + (x1 + 1)) ≤ 900)) : (x0 ≤ 900) := (lin [x0, x1] (.cons 1 (.p (.v 0) (.p (.v 1) (.c 1))) (.c 900) .nil) (.v 0) (.c 900) rfl h0)
theorem a612 {x0 : Nat}  (h0 : (x0 ≤ 10000)) : (x0 ≤ 16777216) := (lin [x0] (.cons 1 (.v 0) (.c 10000) .nil) (.v 0) (.c 16777216) rfl h0)
theorem a613 {x0 : Nat}  (h0 : ((((x0 : Nat) : Int) + (1 : Int)) = (0 : Int))) : False := (linF [x0] (.cons 1 (.p (.v 0) (.c 1)) (.c 0) .nil) rfl (Nat.le_of_eq (Int.ofNat_inj.mp h0)))
theorem a614 {x0 : Nat}  (h0 : ((Int.toNat (min ((x0 : Nat) : Int) (41 : Int))) = (min x0 41))) : ((min x0 41) ≤ 150) := by first | lia | omega
theorem a615 {x0 x1 x2 x3 : Nat}  (h0 : ((Int.toNat (min ((x2 : Nat) : Int) (41 : Int))) = (min x2 41))) (h1 : (x0 < x3)) (h2 : (x1 = 40)) (h3 : (x3 < (min x2 41))) : (x0 < x1) := by first | lia | omega
theorem a616 {x0 x1 : Nat}  (h0 : (x1 = 40)) : ((min x0 x1) ≤ 40) := (lin [x1, (min x0 x1)] (.cons 1 (.v 0) (.c 40) (.cons 1 (.v 1) (.v 0) .nil)) (.v 1) (.c 40) rfl (Nat.le_of_eq h0) (Nat.min_le_right x0 x1))
theorem a617 {x0 : Nat}  (h0 : (600 ≤ x0)) : (5 ≤ x0) := (lin [x0] (.cons 1 (.c 600) (.v 0) .nil) (.c 5) (.v 0) rfl h0)
theorem a618 {x0 : Int}  : ((x0 % (5 : Int)) < ((2 : Int) ^ 62)) := by first | lia | omega
theorem a619 {x0 : Nat} {x1 : Int} (h0 : ((x1 % (6 : Int)) = ((x0 : Nat) : Int))) : (x0 ≤ 1000) := by first | lia | omega
theorem a620 {x0 x1 : Nat}  (h0 : (((x1 + 1) + 2) ≤ x0)) : (0 < x0) := (lin [x1, x0] (.cons 1 (.p (.p (.v 0) (.c 1)) (.c 2)) (.v 1) .nil) (.p (.c 0) (.c 1)) (.v 1) rfl h0)
theorem a621 {x0 x1 x2 : Nat}  (h0 : (((x2 : Nat) : Int) < ((x2 : Nat) : Int))) : (x0 < x1) := (False.elim (linF [x2] (.cons 1 (.p (.v 0) (.c 1)) (.v 0) .nil) rfl (Int.ofNat_lt.mp h0)))
theorem a622 {x0 x1 x2 : Nat}  (h0 : (decide (((x0 : Nat) : Int) < ((x2 : Nat) : Int)) = true)) (h1 : (x1 ≤ 1000)) (h2 : (x2 = x1)) : (((x0 : Nat) : Int) < ((2 : Int) ^ 62)) := (Int.ofNat_lt.mpr (lin [x0, x2, x1] (.cons 1 (.p (.v 0) (.c 1)) (.v 1) (.cons 1 (.v 2) (.c 1000) (.cons 1 (.v 1) (.v 2) .nil))) (.p (.v 0) (.c 1)) (.c (2 ^ 62)) rfl (Int.ofNat_lt.mp (of_decide_eq_true h0)) h1 (Nat.le_of_eq h2)))
theorem a623 {x0 x1 : Nat}  (h0 : ((x1 + 1) ≤ 300)) (h1 : (x0 < (x1 + 1))) : (x0 ≤ 16777216) := (lin [x1, x0] (.cons 1 (.p (.v 0) (.c 1)) (.c 300) (.cons 1 (.p (.v 1) (.c 1)) (.p (.v 0) (.c 1)) .nil)) (.v 1) (.c 16777216) rfl h0 h1)
theorem a624 {x0 : Nat}  (h0 : (x0 ≤ 150)) : (((x0 : Nat) : Int) < ((2 : Int) ^ 62)) := (Int.ofNat_lt.mpr (lin [x0] (.cons 1 (.v 0) (.c 150) .nil) (.p (.v 0) (.c 1)) (.c (2 ^ 62)) rfl h0))
theorem a625 {x0 : Nat}  (h0 : (x0 ≤ 150)) : ((Int.toNat ((x0 : Nat) : Int)) ≤ 16777216) := by first | lia | omega
theorem a626 {x0 : Nat}  (h0 : (x0 ≤ 150)) : (x0 < (2 ^ 62)) := (lin [x0] (.cons 1 (.v 0) (.c 150) .nil) (.p (.v 0) (.c 1)) (.c (2 ^ 62)) rfl h0)
theorem a627 {x0 : Nat} {x1 : Int} (h0 : ((x1 % (20 : Int)) = ((x0 : Nat) : Int))) : (x0 < 20) := by first | lia | omega
theorem a628 {x0 x1 x2 x3 : Nat}  (h0 : ((x2 ≤ x1) ∧ (x2 ≤ x3))) (h1 : (x0 = x2)) : ((min x0 x1) = x0) := (Nat.le_antisymm (lin [(min x0 x1), x0] (.cons 1 (.v 0) (.v 1) .nil) (.v 0) (.v 1) rfl (Nat.min_le_left x0 x1)) (lin [x0, (min x0 x1)] (.cons 1 (.v 0) (.v 1) .nil) (.v 0) (.v 1) rfl (minA (lin [x2, x1, x0] (.cons 1 (.v 0) (.v 1) (.cons 1 (.v 2) (.v 0) .nil)) (.v 2) (.v 1) rfl (And.left h0) (Nat.le_of_eq h1)))))
theorem a629 {x0 x1 x2 x4 : Nat} {x3 : Int} (h0 : (((((5 : Int) * (((x2 : Nat) : Int) % (12 : Int))) + x3) % (94 : Int)) = ((((5 : Int) * (((x1 : Nat) : Int) % (12 : Int))) + x3) % (94 : Int)))) (h1 : (((((7 : Int) * (((x2 : Nat) : Int) / (12 : Int))) + x3) % (94 : Int)) = ((((7 : Int) * (((x1 : Nat) : Int) / (12 : Int))) + x3) % (94 : Int)))) (h2 : ((x3 % (6 : Int)) = ((x4 : Nat) : Int))) (h3 : (x0 ≤ 150)) (h4 : (x1 < x0)) (h5 : (x2 < x1)) : False := by first | lia | omega
theorem a630 {x0 x1 : Nat}  (h0 : ((((x0 : Nat) : Int) == (0 : Int)) = true)) (h1 : (2 ≤ x1)) (h2 : (x0 = x1)) : False := (linF [x0, x1] (.cons 1 (.v 0) (.c 0) (.cons 1 (.c 2) (.v 1) (.cons 1 (.v 1) (.v 0) .nil))) rfl (Nat.le_of_eq (Int.ofNat_inj.mp (eq_of_beq h0))) h1 (Nat.le_of_eq (Eq.symm h2)))
theorem a631 {x0 : Nat}  (h0 : ((Int.toNat ((x0 : Nat) : Int)) = x0)) (h1 : (x0 ≤ 150)) : ((Int.toNat ((x0 : Nat) : Int)) ≤ 16777216) := by first | lia | omega
theorem a632 {x0 x1 : Nat}  (h0 : ((Int.toNat ((x1 : Nat) : Int)) = x1)) (h1 : (x0 < (Int.toNat ((x1 : Nat) : Int)))) (h2 : (x1 ≤ 150)) : (((x0 : Nat) : Int) < ((2 : Int) ^ 62)) := by first | lia | omega
theorem a633 {x0 x1 : Nat} {x2 : Int} (h0 : ((x2 % (6 : Int)) = ((x1 : Nat) : Int))) (h1 : (x0 = x1)) : (x0 ≤ 16777214) := by first | lia | omega
theorem a634 {x0 x1 x2 : Nat}  (h0 : (x1 ≤ x2)) (h1 : (x2 ≤ 1000)) : ((min x0 x1) ≤ 16777216) := (lin [x1, x2, (min x0 x1)] (.cons 1 (.v 0) (.v 1) (.cons 1 (.v 1) (.c 1000) (.cons 1 (.v 2) (.v 0) .nil))) (.v 2) (.c 16777216) rfl h0 h1 (Nat.min_le_right x0 x1))
theorem a635 {x0 x1 : Nat}  (h0 : (x1 < x0)) : ((x0 - (x1 + 1)) < (x0 - x1)) := (lin [x0, (x0 - x1), x1, (x0 - (x1 + 1))] (.cons 1 (.v 0) (.p (.v 1) (.v 2)) (.cons 1 (.p (.v 3) (.p (.v 2) (.c 1))) (.v 0) .nil)) (.p (.v 3) (.c 1)) (.v 1) rfl (subU x0 x1) (subE (lin [x1, x0] (.cons 1 (.p (.v 0) (.c 1)) (.v 1) .nil) (.p (.v 0) (.c 1)) (.v 1) rfl h0)))
theorem a636 {x0 x1 : Nat}  (h0 : (((x1 + 1) + 2) ≤ x0)) : (0 < (x0 - 1)) := (lin [x1, x0, (x0 - 1)] (.cons 1 (.p (.p (.v 0) (.c 1)) (.c 2)) (.v 1) (.cons 1 (.v 1) (.p (.v 2) (.c 1)) .nil)) (.p (.c 0) (.c 1)) (.v 2) rfl h0 (subU x0 1))
theorem a638 {x0 : Nat}  (h0 : (x0 ≤ 150)) : (x0 ≤ 10000) := (lin [x0] (.cons 1 (.v 0) (.c 150) .nil) (.v 0) (.c 10000) rfl h0)
theorem a640 {x0 x1 : Nat} {x2 : Int} (h0 : ((x2 % (6 : Int)) = ((x1 : Nat) : Int))) (h1 : (x0 = x1)) : (x0 ≤ 38) := by first | lia | omega
theorem a641 {x0 x1 x2 x3 x4 : Nat}  (h0 : ((x1 + 1) ≤ 300)) (h1 : ((x3 ≤ x4) ∧ (x3 ≤ x2))) (h2 : (x0 = x3)) (h3 : (x2 < (x1 + 1))) : (x0 ≤ 10000) := (lin [x1, x3, x2, x0] (.cons 1 (.p (.v 0) (.c 1)) (.c 300) (.cons 1 (.v 1) (.v 2) (.cons 1 (.v 3) (.v 1) (.cons 1 (.p (.v 2) (.c 1)) (.p (.v 0) (.c 1)) .nil)))) (.v 3) (.c 10000) rfl h0 (And.right h1) (Nat.le_of_eq h2) h3)
theorem a642 {x0 : Nat}  (h0 : (x0 ≤ 1000)) : (x0 ≤ 10000) := (lin [x0] (.cons 1 (.v 0) (.c 1000) .nil) (.v 0) (.c 10000) rfl h0)
theorem a643 {x0 x1 x2 x3 x4 x5 : Nat}  (h0 : ((x1 + 1) ≤ 300)) (h1 : ((x4 ≤ x5) ∧ (x4 ≤ x2))) (h2 : (x0 = x3)) (h3 : (x2 < (x1 + 1))) (h4 : (x3 = x4)) : (x0 < (2 ^ 62)) := (lin [x1, x4, x2, x0, x3] (.cons 1 (.p (.v 0) (.c 1)) (.c 300) (.cons 1 (.v 1) (.v 2) (.cons 1 (.v 3) (.v 4) (.cons 1 (.p (.v 2) (.c 1)) (.p (.v 0) (.c 1)) (.cons 1 (.v 4) (.v 1) .nil))))) (.p (.v 3) (.c 1)) (.c (2 ^ 62)) rfl h0 (And.right h1) (Nat.le_of_eq h2) h3 (Nat.le_of_eq h4))
theorem a644 {x0 : Nat}   : ((Int.toNat (min ((x0 : Nat) : Int) (94 : Int))) = (min x0 94)) := by first | lia | omega
theorem a645 {x0 x1 x2 x4 : Nat} {x3 : Int} (h0 : (((((7 : Int) * ((x2 : Nat) : Int)) + x3) % (94 : Int)) = ((((7 : Int) * ((x1 : Nat) : Int)) + x3) % (94 : Int)))) (h1 : ((Int.toNat (min ((x0 : Nat) : Int) (94 : Int))) = (min x0 94))) (h2 : ((x3 % (6 : Int)) = ((x4 : Nat) : Int))) (h3 : (x1 < (min x0 94))) (h4 : (x2 < x1)) : False := by first | lia | omega
theorem a646 {x0 x1 : Nat}  (h0 : (((x0 + 1) + 2) ≤ x1)) : ((x0 + 2) ≤ (x1 - 1)) := (lin [x0, x1, (x1 - 1)] (.cons 1 (.p (.p (.v 0) (.c 1)) (.c 2)) (.v 1) (.cons 1 (.v 1) (.p (.v 2) (.c 1)) .nil)) (.p (.v 0) (.c 2)) (.v 2) rfl h0 (subU x1 1))
theorem a647 {x0 : Nat}  (h0 : ((Int.toNat (min ((x0 : Nat) : Int) (94 : Int))) = (min x0 94))) : ((-((2 : Int) ^ 62)) ≤ (min ((x0 : Nat) : Int) (94 : Int))) := by first | lia | omega
theorem a648 {x0 : Nat}  (h0 : ((Int.toNat (min ((x0 : Nat) : Int) (94 : Int))) = (min x0 94))) : ((min ((x0 : Nat) : Int) (94 : Int)) < ((2 : Int) ^ 62)) := by first | lia | omega
theorem a649 {x0 : Nat}  (h0 : ((Int.toNat (min ((x0 : Nat) : Int) (94 : Int))) = (min x0 94))) : ((Int.toNat (min ((x0 : Nat) : Int) (94 : Int))) ≤ 16777216) := by first | lia | omega
theorem a650 {x0 x1 : Nat} {x2 : Int} (h0 : ((x2 % (6 : Int)) = ((x1 : Nat) : Int))) (h1 : (x0 = x1)) : (x0 ≤ 16777215) := by first | lia | omega
theorem a651 {x0 : Nat}  (h0 : ((Int.toNat (min ((x0 : Nat) : Int) (94 : Int))) = (min x0 94))) : ((min x0 94) ≤ 10000) := by first | lia | omega
theorem a652 {x0 : Nat}  (h0 : ((Int.toNat (min ((x0 : Nat) : Int) (94 : Int))) = (min x0 94))) : ((min x0 94) ≤ 150) := by first | lia | omega
theorem a653 {x0 x1 : Nat} {x2 : Int} (h0 : ((x2 % (6 : Int)) = ((x1 : Nat) : Int))) (h1 : (x0 = x1)) : (x0 ≤ 39) := by first | lia | omega
theorem a654 {x0 : Nat}   : ((-((2 : Int) ^ 62)) ≤ (min ((x0 : Nat) : Int) (60 : Int))) := by first | lia | omega
theorem a655 {x0 : Nat}   : ((min ((x0 : Nat) : Int) (60 : Int)) < ((2 : Int) ^ 62)) := by first | lia | omega
theorem a656 {x1 : Nat} {x0 : Int} (h0 : ((0 : Int) ≤ x0)) : ((0 : Int) ≤ (x0 + ((x1 : Nat) : Int))) := by first | lia | omega
theorem a657 {x0 : Nat} {x1 : Int} (h0 : (((x1 / (4 : Int)) % (6 : Int)) = ((x0 : Nat) : Int))) : (x0 ≤ 40) := by first | lia | omega
theorem a658 {x0 : Nat}  (h0 : (x0 ≤ 40)) : (x0 ≤ 1000) := (lin [x0] (.cons 1 (.v 0) (.c 40) .nil) (.v 0) (.c 1000) rfl h0)
theorem a659 {x0 x1 : Nat}  (h0 : (x0 = x1)) (h1 : (x1 ≤ 40)) : (x0 ≤ 80) := (lin [x0, x1] (.cons 1 (.v 0) (.v 1) (.cons 1 (.v 1) (.c 40) .nil)) (.v 0) (.c 80) rfl (Nat.le_of_eq h0) h1)
theorem a660 {x0 x1 x2 : Nat}  (h0 : (x0 ≤ x1)) (h1 : (x1 < (Int.toNat (min ((x2 : Nat) : Int) (60 : Int))))) : (x0 < (2 ^ 62)) := by first | lia | omega
theorem a661 {x0 x1 x3 x4 : Nat} {x2 : Int} (h0 : (((x0 : Nat) : Int) < ((x1 : Nat) : Int))) (h1 : (((x2 / (216 : Int)) % ((x1 : Nat) : Int)) = ((x0 : Nat) : Int))) (h2 : (x1 ≤ x3)) (h3 : (x3 < (Int.toNat (min ((x4 : Nat) : Int) (60 : Int))))) : (((x0 : Nat) : Int) < ((2 : Int) ^ 62)) := by first | lia | omega
theorem a662 {x0 : Nat}   : ((0 : Int) ≤ (((x0 : Nat) : Int) / (2 : Int))) := (Int.ofNat_le.mpr (lin [(x0 / 2)] .nil (.c 0) (.v 0) rfl ))
theorem a663 {x0 : Nat}  (h0 : (x0 ≤ 40)) : (x0 < (2 ^ 62)) := (lin [x0] (.cons 1 (.v 0) (.c 40) .nil) (.p (.v 0) (.c 1)) (.c (2 ^ 62)) rfl h0)
theorem a664 {x0 : Nat}  (h0 : (x0 ≤ 40)) : (x0 ≤ 16777216) := (lin [x0] (.cons 1 (.v 0) (.c 40) .nil) (.v 0) (.c 16777216) rfl h0)
theorem a665 {x0 x1 x2 : Nat}  (h0 : (x0 ≤ 40)) (h1 : (x1 = x2)) (h2 : (x2 ≤ 40)) : ((x0 + x1) ≤ 16777216) := (lin [x0, x1, x2] (.cons 1 (.v 0) (.c 40) (.cons 1 (.v 1) (.v 2) (.cons 1 (.v 2) (.c 40) .nil))) (.p (.v 0) (.v 1)) (.c 16777216) rfl h0 (Nat.le_of_eq h1) h2)
theorem a666 {x0 x1 x2 : Nat}  (h0 : (x0 ≤ 40)) (h1 : (x1 = x2)) (h2 : (x2 ≤ 40)) : ((x0 + x1) ≤ 80) := (lin [x0, x1, x2] (.cons 1 (.v 0) (.c 40) (.cons 1 (.v 1) (.v 2) (.cons 1 (.v 2) (.c 40) .nil))) (.p (.v 0) (.v 1)) (.c 80) rfl h0 (Nat.le_of_eq h1) h2)
theorem a667 {x0 : Nat}  (h0 : (x0 ≤ 80)) : (x0 ≤ 16777216) := (lin [x0] (.cons 1 (.v 0) (.c 80) .nil) (.v 0) (.c 16777216) rfl h0)
theorem a668 {x0 x1 x2 : Nat}  (h0 : (x0 ≤ x1)) (h1 : (x1 < (Int.toNat (min ((x2 : Nat) : Int) (60 : Int))))) : (x0 ≤ 16777216) := by first | lia | omega
theorem a669 {x0 x1 : Nat}  (h0 : (x0 < (Int.toNat (min ((x1 : Nat) : Int) (60 : Int))))) : (x0 ≤ 150) := by first | lia | omega
theorem a670 {x0 x1 x2 : Nat}  (h0 : (x0 ≤ x2)) (h1 : (x2 ≤ x1)) : ((x0 + 1) ≤ (x1 + 1)) := (lin [x0, x2, x1] (.cons 1 (.v 0) (.v 1) (.cons 1 (.v 1) (.v 2) .nil)) (.p (.v 0) (.c 1)) (.p (.v 2) (.c 1)) rfl h0 h1)
theorem a671 {x0 x1 : Nat}  (h0 : (x0 ≤ (Int.toNat (min ((x1 : Nat) : Int) (60 : Int))))) : (x0 ≤ 10000) := by first | lia | omega
theorem a672 {x0 x1 : Nat}  (h0 : (x0 ≤ (Int.toNat (min ((x1 : Nat) : Int) (60 : Int))))) : (x0 ≤ 150) := by first | lia | omega
end Mine

set_option autoImplicit false
set_option maxHeartbeats 4000000
set_option maxRecDepth 100000
namespace Mine
open PySem PyProof.Rows

/-! ## the model's sort, for keys whose comparison is quiet -/
abbrev KRow := PyProof.Rows.Keyed
def kk (K : KRow → Int) (a : Array KRow) (i : Nat) : Int := match a[i]? with
  | some x => K x
  | none => 0
def AllS (S : KRow → Prop) (a : Array KRow) : Prop := ∀ (i : Nat) (x : KRow), a[i]? = some x → S x
def SortedOn (K : KRow → Int) (a : Array KRow) (lo hi : Nat) : Prop := ∀ i j, lo ≤ i → i ≤ j → j < hi → kk K a i ≤ kk K a j

section
variable {M : Model} {A : Around} {E : Value → Shared → Prop} {s : Shared} {κ : SortKind} {S : KRow → Prop} {K : KRow → Int}
def LtOk (M : Model) (A : Around) (E : Value → Shared → Prop) (s : Shared) (κ : SortKind) (S : KRow → Prop) (K : KRow → Int) : Prop :=
  ∀ (x y : KRow) (st : SortSt) (Q : Option Bool → SortSt → Prop), S x → S y → PyProof.Rows.kindOf st = κ → Q (some (decide (K x < K y))) st → PyProof.Rows.wpS M A E s (lt' x y) Q st

theorem elem_ok {a : Array KRow} {i : Nat} {st : SortSt} {Q : KRow → SortSt → Prop} (hi : i < a.size) (h : ∀ x, a[i]? = some x → kk K a i = K x → Q x st) : PyProof.Rows.wpS M A E s (elem' a i) Q st := by
  rw [elem'_eq]
  have e : a[i]? = some a[i] := getElem?_pos a i hi
  rw [e]
  exact wpS_pure (h _ e (by unfold kk; rw [e]))

def gallop' : Bool → KRow → Array KRow → Nat → Nat → Nat → StateT SortSt Sem (Option Nat) := sortPriv% PySem.Builtin.gallop
theorem beyond_ok {left : Bool} {key : KRow} {arr : Array KRow} {base i : Nat} {st : SortSt} {Q : Option Bool → SortSt → Prop} (L : LtOk M A E s κ S K) (hk : S key) (hS : AllS S arr) (hst : PyProof.Rows.kindOf st = κ) (hi : base + i < arr.size)
    (h : Q (some (decide (kk K arr (base + i) < K key + (if left then 0 else 1)))) st) :
    PyProof.Rows.wpS M A E s (do let x ← elem' arr (base + i); if left then lt' x key else return (← lt' key x).map (!·)) Q st := by
  refine wpS_bind (elem_ok (K := K) hi fun x hx hkx => ?_)
  rw [hkx] at h
  cases left with
  | true => simp only [if_true, Int.add_zero] at h ⊢; exact L _ _ _ _ (hS _ _ hx) hk hst h
  | false =>
    simp only [Bool.false_eq_true, if_false] at h ⊢
    refine wpS_bind (L _ _ _ _ hk (hS _ _ hx) hst (wpS_pure ?_))
    have e : (!(decide (K key < K x))) = decide (K x < K key + 1) := by
      by_cases hc : K key < K x
      · rw [decide_eq_true hc, decide_eq_false (by (exact a132 hc))]; rfl
      · rw [decide_eq_false hc, decide_eq_true (by (exact a136 hc))]; rfl
    show Q (Option.map _ (some _)) st
    rw [Option.map_some, e]
    exact h

theorem gallop_ok {left : Bool} {key : KRow} {arr : Array KRow} {base n hint : Nat} {st : SortSt} {Q : Option Nat → SortSt → Prop} (L : LtOk M A E s κ S K) (hk : S key) (hS : AllS S arr) (hst : PyProof.Rows.kindOf st = κ) (hsz : base + n ≤ arr.size) (hh : hint < n) (hs : SortedOn K arr base (base + n))
    (h : ∀ k, k ≤ n → (∀ i, i < k → kk K arr (base + i) < K key + (if left then 0 else 1)) → (∀ i, k ≤ i → i < n → ¬ kk K arr (base + i) < K key + (if left then 0 else 1)) → Q (some k) st) :
    PyProof.Rows.wpS M A E s (gallop' left key arr base n hint) Q st := by
  unfold gallop'
  generalize hT : K key + (if left then (0 : Int) else 1) = T at h
  have mono : ∀ i j, i ≤ j → j < n → kk K arr (base + j) < T → kk K arr (base + i) < T := fun i j hij hj hb => Int.lt_of_le_of_lt (hs (base + i) (base + j) (by (exact a13 )) (by (exact a134 hij)) (by (exact a135 hj))) hb
  refine wpS_bind (beyond_ok L hk hS hst (by (exact a22 hsz hh)) ?_)
  rw [hT]
  dsimp only
  by_cases hr : kk K arr (base + hint) < T
  · rw [decide_eq_true hr]
    simp only [if_true]
    refine wpS_bind (wpS_mono (wpS_forRange (I := fun x c st' => st = st' ∧ ∃ lastofs ofs, c = (none, lastofs, ofs) ∧ lastofs < ofs ∧ x + 1 ≤ ofs ∧ lastofs < n - hint ∧ kk K arr (base + (hint + lastofs)) < T)
      (Q := fun c st' => st = st' ∧ ∃ lastofs ofs, c = (none, lastofs, ofs) ∧ lastofs < ofs ∧ lastofs < n - hint ∧ kk K arr (base + (hint + lastofs)) < T ∧ (n - hint ≤ ofs ∨ ¬ kk K arr (base + (hint + ofs)) < T)) ?_ ?_ ⟨rfl, 0, 1, rfl, by (exact a163 ), by (exact a167 ), by (exact a175 hh), hr⟩) ?_)
    · rintro x c st' _ hx ⟨rfl, lastofs, ofs, rfl, g1, g2, g3, g4⟩
      dsimp only
      by_cases hge : ofs ≥ n - hint
      · rw [if_pos hge]; exact wpS_pure ⟨rfl, _, _, rfl, g1, g3, g4, .inl hge⟩
      · rw [if_neg hge]
        refine wpS_bind (beyond_ok L hk hS hst (by (exact a182 hsz hh hge)) ?_)
        rw [hT]
        dsimp only
        by_cases hm : kk K arr (base + (hint + ofs)) < T
        · rw [decide_eq_true hm, if_neg (by decide)]
          exact wpS_pure ⟨rfl, _, _, rfl, by (exact a183 ), by (exact a185 g2), by (exact a187 hge), hm⟩
        · rw [decide_eq_false hm, if_pos (by decide)]
          exact wpS_pure ⟨rfl, _, _, rfl, g1, g3, g4, .inr hm⟩
    · rintro c st' ⟨rfl, lastofs, ofs, rfl, g1, g2, g3, g4⟩
      exact ⟨rfl, _, _, rfl, g1, g3, g4, .inl (by (exact a189 g2 hh))⟩
    · rintro c st' ⟨rfl, lastofs, ofs, rfl, g1, g2, g3, g4⟩
      dsimp only
      have low : ∀ i, i < hint + lastofs + 1 → kk K arr (base + i) < T := fun i hi' => mono i (hint + lastofs) (by (exact a194 hi')) (by (exact a196 hh g2)) g3
      have high : ∀ i, hint + min ofs (n - hint) ≤ i → i < n → ¬ kk K arr (base + i) < T := fun i h6 h7 hb => by
        rcases g4 with g4 | g4
        · (exact a198 g4 h6 h7)
        · exact g4 (mono _ i (by (exact a203 h6 h7)) h7 hb)
      refine wpS_bind (wpS_mono (wpS_forRange (I := fun x c st' => st = st' ∧ ∃ lo hi, c = (none, lo, hi) ∧ lo ≤ hi ∧ hi ≤ n ∧ hi - lo ≤ n - x ∧ (∀ i, i < lo → kk K arr (base + i) < T) ∧ (∀ i, hi ≤ i → i < n → ¬ kk K arr (base + i) < T))
        (Q := fun c st' => st = st' ∧ ∃ lo hi, c = (none, lo, hi) ∧ lo = hi ∧ hi ≤ n ∧ (∀ i, i < lo → kk K arr (base + i) < T) ∧ (∀ i, hi ≤ i → i < n → ¬ kk K arr (base + i) < T)) ?_ ?_ ⟨rfl, _, _, rfl, by (exact a209 g2 g1), by (exact a211 hh), by (exact a215 hh), low, high⟩) ?_)
      · rintro x c st' _ hx ⟨rfl, lo, hi, rfl, h1, h2, h3, h4, h5⟩
        dsimp only
        by_cases hge : lo ≥ hi
        · rw [if_pos hge]; exact wpS_pure ⟨rfl, lo, hi, rfl, by (exact a89 h1 hge), h2, h4, h5⟩
        · rw [if_neg hge]
          refine wpS_bind (beyond_ok L hk hS hst (by (exact a225 hsz h2 hge)) ?_)
          rw [hT]
          dsimp only
          by_cases hm : kk K arr (base + (lo + (hi - lo) / 2)) < T
          · rw [decide_eq_true hm, if_pos rfl]
            exact wpS_pure ⟨rfl, _, _, rfl, by (exact a229 hge), h2, by (exact a232 h3 hx), fun i hi' => mono i (lo + (hi - lo) / 2) (by (exact a236 hi')) (by (exact a239 h2 hge)) hm, h5⟩
          · rw [decide_eq_false hm, if_neg (by decide)]
            exact wpS_pure ⟨rfl, _, _, rfl, by (exact a243 ), by (exact a246 h2 hge), by (exact a249 h3 hx hge), h4, fun i h6 h7 hb => hm (mono _ i h6 h7 hb)⟩
      · rintro c st' ⟨rfl, lo, hi, rfl, h1, h2, h3, h4, h5⟩
        exact ⟨rfl, lo, hi, rfl, by (exact a86 h3 h1), h2, h4, h5⟩
      · rintro c st' ⟨rfl, lo, hi, rfl, rfl, h2, h4, h5⟩
        exact wpS_pure (h lo h2 h4 h5)
  · rw [decide_eq_false hr]
    simp only [Bool.false_eq_true, if_false]
    refine wpS_bind (wpS_mono (wpS_forRange (I := fun x c st' => st = st' ∧ ∃ lastofs ofs, c = (none, lastofs, ofs) ∧ lastofs < ofs ∧ x + 1 ≤ ofs ∧ lastofs ≤ hint ∧ ¬ kk K arr (base + (hint - lastofs)) < T)
      (Q := fun c st' => st = st' ∧ ∃ lastofs ofs, c = (none, lastofs, ofs) ∧ lastofs < ofs ∧ lastofs ≤ hint ∧ ¬ kk K arr (base + (hint - lastofs)) < T ∧ (hint + 1 ≤ ofs ∨ (ofs ≤ hint ∧ kk K arr (base + (hint - ofs)) < T))) ?_ ?_ ⟨rfl, 0, 1, rfl, by (exact a163 ), by (exact a167 ), by (exact a69 ), hr⟩) ?_)
    · rintro x c st' _ hx ⟨rfl, lastofs, ofs, rfl, g1, g2, g3, g4⟩
      dsimp only
      by_cases hge : ofs ≥ hint + 1
      · rw [if_pos hge]; exact wpS_pure ⟨rfl, _, _, rfl, g1, g3, g4, .inl hge⟩
      · rw [if_neg hge]
        refine wpS_bind (beyond_ok L hk hS hst (by (exact a260 hsz hh)) ?_)
        rw [hT]
        dsimp only
        by_cases hm : kk K arr (base + (hint - ofs)) < T
        · rw [decide_eq_true hm, if_pos rfl]
          exact wpS_pure ⟨rfl, _, _, rfl, g1, g3, g4, .inr ⟨by (exact a261 hge), hm⟩⟩
        · rw [decide_eq_false hm, if_neg (by decide)]
          exact wpS_pure ⟨rfl, _, _, rfl, by (exact a183 ), by (exact a185 g2), by (exact a261 hge), hm⟩
    · rintro c st' ⟨rfl, lastofs, ofs, rfl, g1, g2, g3, g4⟩
      exact ⟨rfl, _, _, rfl, g1, g3, g4, .inl (by (exact a267 g2 hh))⟩
    · rintro c st' ⟨rfl, lastofs, ofs, rfl, g1, g2, g3, g4⟩
      dsimp only
      have low : ∀ i, i < hint + 1 - min ofs (hint + 1) → kk K arr (base + i) < T := fun i hi' => by
        rcases g4 with g4 | ⟨g4, g5⟩
        · (exact (a271 g4 hi').elim)
        · exact mono i (hint - ofs) (by (exact a272 hi' g4)) (by (exact a274 hh)) g5
      have high : ∀ i, hint - lastofs ≤ i → i < n → ¬ kk K arr (base + i) < T := fun i h6 h7 hb => g3 (mono _ i h6 h7 hb)
      refine wpS_bind (wpS_mono (wpS_forRange (I := fun x c st' => st = st' ∧ ∃ lo hi, c = (none, lo, hi) ∧ lo ≤ hi ∧ hi ≤ n ∧ hi - lo ≤ n - x ∧ (∀ i, i < lo → kk K arr (base + i) < T) ∧ (∀ i, hi ≤ i → i < n → ¬ kk K arr (base + i) < T))
        (Q := fun c st' => st = st' ∧ ∃ lo hi, c = (none, lo, hi) ∧ lo = hi ∧ hi ≤ n ∧ (∀ i, i < lo → kk K arr (base + i) < T) ∧ (∀ i, hi ≤ i → i < n → ¬ kk K arr (base + i) < T)) ?_ ?_ ⟨rfl, _, _, rfl, by (exact a279 g4 g1), by (exact a280 hh), by (exact a281 hh), low, high⟩) ?_)
      · rintro x c st' _ hx ⟨rfl, lo, hi, rfl, h1, h2, h3, h4, h5⟩
        dsimp only
        by_cases hge : lo ≥ hi
        · rw [if_pos hge]; exact wpS_pure ⟨rfl, lo, hi, rfl, by (exact a89 h1 hge), h2, h4, h5⟩
        · rw [if_neg hge]
          refine wpS_bind (beyond_ok L hk hS hst (by (exact a225 hsz h2 hge)) ?_)
          rw [hT]
          dsimp only
          by_cases hm : kk K arr (base + (lo + (hi - lo) / 2)) < T
          · rw [decide_eq_true hm, if_pos rfl]
            exact wpS_pure ⟨rfl, _, _, rfl, by (exact a229 hge), h2, by (exact a232 h3 hx), fun i hi' => mono i (lo + (hi - lo) / 2) (by (exact a236 hi')) (by (exact a239 h2 hge)) hm, h5⟩
          · rw [decide_eq_false hm, if_neg (by decide)]
            exact wpS_pure ⟨rfl, _, _, rfl, by (exact a243 ), by (exact a246 h2 hge), by (exact a249 h3 hx hge), h4, fun i h6 h7 hb => hm (mono _ i h6 h7 hb)⟩
      · rintro c st' ⟨rfl, lo, hi, rfl, h1, h2, h3, h4, h5⟩
        exact ⟨rfl, lo, hi, rfl, by (exact a86 h3 h1), h2, h4, h5⟩
      · rintro c st' ⟨rfl, lo, hi, rfl, rfl, h2, h4, h5⟩
        exact wpS_pure (h lo h2 h4 h5)
end
end Mine

set_option autoImplicit false
set_option maxRecDepth 100000
namespace Mine
open PySem PyProof.Rows

section
variable {K : KRow → Int} {a b out : List KRow} {ia ib k : Nat}
def Asc (K : KRow → Int) (l : List KRow) : Prop := l.Pairwise fun x y => K x ≤ K y
theorem Asc.take (h : Asc K a) (n : Nat) : Asc K (a.take n) := h.sublist (List.take_sublist _ _)
theorem Asc.drop (h : Asc K a) (n : Nat) : Asc K (a.drop n) := h.sublist (List.drop_sublist _ _)
theorem Asc.cut (h : Asc K a) (n : Nat) {x y : KRow} (hx : x ∈ a.take n) (hy : y ∈ a.drop n) : K x ≤ K y := by
  have : Asc K (a.take n ++ a.drop n) := by rw [List.take_append_drop]; exact h
  exact (List.pairwise_append.mp this).2.2 x hx y hy

structure Mrg (K : KRow → Int) (a b out : List KRow) (ia ib : Nat) : Prop where
  perm : out.Perm (a.take ia ++ b.take ib)
  sorted : Asc K out
  low : ∀ x ∈ out, ∀ y, y ∈ a.drop ia ∨ y ∈ b.drop ib → K x ≤ K y
theorem Mrg.swap (h : Mrg K a b out ia ib) : Mrg K b a out ib ia := ⟨h.perm.trans List.perm_append_comm, h.sorted, fun x hx y hy => h.low x hx y hy.symm⟩
theorem mem_drop_add {x : KRow} {n m : Nat} (h : x ∈ a.drop (n + m)) : x ∈ a.drop n := by
  rw [← List.drop_drop] at h; exact List.mem_of_mem_drop h
theorem Mrg.addB (h : Mrg K a b out ia ib) (hb : Asc K b) (k : Nat) (hc : ∀ y ∈ (b.drop ib).take k, ∀ z ∈ a.drop ia, K y ≤ K z) : Mrg K a b (out ++ (b.drop ib).take k) ia (ib + k) := by
  refine ⟨?_, ?_, ?_⟩
  · refine (h.perm.append_right _).trans ?_
    rw [List.append_assoc, List.take_add]
  · refine List.pairwise_append.mpr ⟨h.sorted, (hb.drop ib).take k, fun x hx y hy => h.low x hx y (.inr (List.mem_of_mem_take hy))⟩
  · intro x hx y hy
    rcases List.mem_append.mp hx with hx | hx
    · exact h.low x hx y (hy.imp id mem_drop_add)
    · rcases hy with hy | hy
      · exact hc x hx y hy
      · rw [← List.drop_drop] at hy
        exact (hb.drop ib).cut k hx hy
theorem Mrg.addA (h : Mrg K a b out ia ib) (ha : Asc K a) (k : Nat) (hc : ∀ y ∈ (a.drop ia).take k, ∀ z ∈ b.drop ib, K y ≤ K z) : Mrg K a b (out ++ (a.drop ia).take k) (ia + k) ib := (h.swap.addB ha k hc).swap
theorem Mrg.all (h : Mrg K a b out ia ib) (ha : Asc K a) (hb : Asc K b) (hc : ∀ y ∈ b.drop ib, ∀ z ∈ a.drop ia, K y ≤ K z) : (out ++ b.drop ib ++ a.drop ia).Perm (a ++ b) ∧ Asc K (out ++ b.drop ib ++ a.drop ia) := by
  have h1 := h.addB hb (b.drop ib).length (by rw [List.take_length]; exact hc)
  rw [List.take_length] at h1
  have h2 := h1.addA ha (a.drop ia).length (by rw [List.take_length]; intro y _ z hz; rw [List.drop_of_length_le (by simp; omega)] at hz; cases hz)
  rw [List.take_length] at h2
  refine ⟨?_, h2.sorted⟩
  have := h2.perm
  rwa [List.take_of_length_le (by simp; omega), List.take_of_length_le (by simp; omega)] at this
theorem Mrg.allA (h : Mrg K a b out ia ib) (ha : Asc K a) (hb : Asc K b) (hc : ∀ y ∈ a.drop ia, ∀ z ∈ b.drop ib, K y ≤ K z) : (out ++ a.drop ia ++ b.drop ib).Perm (a ++ b) ∧ Asc K (out ++ a.drop ia ++ b.drop ib) := by
  obtain ⟨x, y⟩ := h.swap.all hb ha hc
  exact ⟨x.trans List.perm_append_comm, y⟩

/-- from behind: r is what has been merged, the rest lies ahead of it -/
structure Mrh (K : KRow → Int) (a b r : List KRow) (na nb : Nat) : Prop where
  perm : r.Perm (a.drop na ++ b.drop nb)
  sorted : Asc K r
  high : ∀ x ∈ r, ∀ y, y ∈ a.take na ∨ y ∈ b.take nb → K y ≤ K x
variable {r : List KRow} {na nb : Nat}
theorem Mrh.swap (h : Mrh K a b r na nb) : Mrh K b a r nb na := ⟨h.perm.trans List.perm_append_comm, h.sorted, fun x hx y hy => h.high x hx y hy.symm⟩
theorem drop_split (l : List KRow) {k n : Nat} (h : k ≤ n) : l.drop k = (l.take n).drop k ++ l.drop n := by
  have : (l.take n ++ l.drop n).drop k = _ := List.drop_append
  rw [List.take_append_drop] at this
  rw [this]
  by_cases hl : n ≤ l.length
  · rw [List.length_take, Nat.min_eq_left hl, show k - n = 0 by omega, List.drop_zero]
  · rw [List.drop_of_length_le (l := l) (i := n) (by omega)]; simp
theorem Mrh.addA (h : Mrh K a b r na nb) (ha : Asc K a) (k : Nat) (hk : k ≤ na) (hc : ∀ y ∈ (a.take na).drop k, ∀ z ∈ b.take nb, K z ≤ K y) : Mrh K a b ((a.take na).drop k ++ r) k nb := by
  refine ⟨?_, ?_, ?_⟩
  · rw [drop_split a hk, List.append_assoc]
    exact h.perm.append_left _
  · exact List.pairwise_append.mpr ⟨(ha.take na).drop k, h.sorted, fun x hx y hy => h.high y hy x (.inl (List.mem_of_mem_drop hx))⟩
  · intro x hx y hy
    have hta : ∀ {z}, z ∈ a.take k → z ∈ a.take na := fun hz => by
      rw [show a.take k = (a.take na).take k by rw [List.take_take, Nat.min_eq_left hk]] at hz
      exact List.mem_of_mem_take hz
    rcases List.mem_append.mp hx with hx | hx
    · rcases hy with hy | hy
      · have hy' : y ∈ (a.take na).take k := by rw [List.take_take, Nat.min_eq_left hk]; exact hy
        exact (ha.take na).cut k hy' hx
      · exact hc x hx y hy
    · exact h.high x hx y (hy.imp hta id)
theorem Mrh.addB (h : Mrh K a b r na nb) (hb : Asc K b) (k : Nat) (hk : k ≤ nb) (hc : ∀ y ∈ (b.take nb).drop k, ∀ z ∈ a.take na, K z ≤ K y) : Mrh K a b ((b.take nb).drop k ++ r) na k := (h.swap.addA hb k hk hc).swap
theorem Mrh.all (h : Mrh K a b r na nb) (ha : Asc K a) (hb : Asc K b) (hc : ∀ y ∈ a.take na, ∀ z ∈ b.take nb, K y ≤ K z) : (a.take na ++ b.take nb ++ r).Perm (a ++ b) ∧ Asc K (a.take na ++ b.take nb ++ r) := by
  have h1 := h.addB hb 0 (Nat.zero_le _) (by rw [List.drop_zero]; exact fun y hy z hz => hc z hz y hy)
  have h2 := h1.addA ha 0 (Nat.zero_le _) (by rw [List.take_zero]; intro _ _ z hz; cases hz)
  simp only [List.drop_zero] at h2
  rw [← List.append_assoc] at h2
  exact ⟨by simpa using h2.perm, h2.sorted⟩
theorem Mrh.allB (h : Mrh K a b r na nb) (ha : Asc K a) (hb : Asc K b) (hc : ∀ y ∈ b.take nb, ∀ z ∈ a.take na, K y ≤ K z) : (b.take nb ++ a.take na ++ r).Perm (a ++ b) ∧ Asc K (b.take nb ++ a.take na ++ r) := by
  obtain ⟨x, y⟩ := h.swap.all hb ha hc
  exact ⟨x.trans List.perm_append_comm, y⟩
end
end Mine

set_option autoImplicit false
set_option maxHeartbeats 4000000
set_option maxRecDepth 100000
namespace Mine
open PySem PyProof.Rows

section
variable {M : Model} {A : Around} {E : Value → Shared → Prop} {s : Shared} {κ : SortKind} {S : KRow → Prop} {K : KRow → Int}
def mergeLo' : Array KRow → Array KRow → StateT SortSt Sem (Array KRow) := sortPriv% PySem.Builtin.mergeLo
def mergeHi' : Array KRow → Array KRow → StateT SortSt Sem (Array KRow) := sortPriv% PySem.Builtin.mergeHi
theorem wpS_ite {α : Type} {σ : Type} {c : Prop} [Decidable c] {t e : StateT σ Sem α} {Q : α → σ → Prop} {st : σ} (h1 : c → PyProof.Rows.wpS M A E s t Q st) (h2 : ¬ c → PyProof.Rows.wpS M A E s e Q st) : PyProof.Rows.wpS M A E s (if c then t else e) Q st := by
  split
  · exact h1 ‹_›
  · exact h2 ‹_›
theorem wpS_opq {α σ : Type} {m : StateT σ Sem α} {Q : α → σ → Prop} {st : σ} (P : (α → σ → Prop) → Prop) (h0 : P Q) (h : ∀ Q', P Q' → PyProof.Rows.wpS M A E s m Q' st) : PyProof.Rows.wpS M A E s m Q st := h Q h0
def SameG (st st' : SortSt) : Prop := ∃ g, st' = SortSt.mk' (PyProof.Rows.kindOf st) (arrOf st) (pendingOf st) g (failedOf st)
theorem SameG.refl (st : SortSt) : SameG st st := ⟨gallopOf st, rfl⟩
theorem SameG.set {st st' : SortSt} (h : SameG st st') (g : Nat) : SameG st (SortSt.mk' (PyProof.Rows.kindOf st') (arrOf st') (pendingOf st') g (failedOf st')) := by
  obtain ⟨g', rfl⟩ := h; exact ⟨g, rfl⟩
theorem SameG.kind {st st' : SortSt} (h : SameG st st') : PyProof.Rows.kindOf st' = PyProof.Rows.kindOf st := by obtain ⟨g', rfl⟩ := h; rfl

/-! merge helpers -/
theorem beq_le {m n : Nat} (h : (m == n) = true) : n ≤ m := by simp at h; (exact a0 h)
theorem mem_drop_iff {a : Array KRow} {n : Nat} {z : KRow} : z ∈ a.toList.drop n ↔ ∃ i, a[n + i]? = some z := by
  rw [List.mem_iff_getElem?]
  simp only [List.getElem?_drop, Array.getElem?_toList]
theorem mem_block_iff {a : Array KRow} {n k : Nat} {z : KRow} : z ∈ (a.toList.drop n).take k ↔ ∃ i, i < k ∧ a[n + i]? = some z := by
  rw [List.mem_iff_getElem?]
  constructor
  · rintro ⟨i, h⟩
    rw [List.getElem?_take] at h
    split at h
    · rename_i hi; exact ⟨i, hi, by simpa [List.getElem?_drop] using h⟩
    · cases h
  · rintro ⟨i, hi, h⟩
    exact ⟨i, by rw [List.getElem?_take, if_pos hi]; simpa [List.getElem?_drop] using h⟩
theorem kk_of {a : Array KRow} {i : Nat} {x : KRow} (h : a[i]? = some x) : kk K a i = K x := by unfold kk; rw [h]
theorem size_of {a : Array KRow} {i : Nat} {x : KRow} (h : a[i]? = some x) : i < a.size := by
  rw [Array.getElem?_eq_some_iff] at h; exact h.1
theorem asc_at {a : Array KRow} (h : Asc K a.toList) {i j : Nat} {x y : KRow} (hij : i ≤ j) (hx : a[i]? = some x) (hy : a[j]? = some y) : K x ≤ K y := by
  by_cases e : i = j
  · subst e; rw [hx] at hy; cases hy; exact Int.le_refl _
  · have hi := size_of hx
    have hj := size_of hy
    have := List.pairwise_iff_getElem.mp h i j (by simpa using hi) (by simpa using hj) (by (exact a1 hij e))
    have e1 : a.toList[i]'(by simpa using hi) = x := by
      have := (Array.getElem?_eq_some_iff.mp hx).2; simpa using this
    have e2 : a.toList[j]'(by simpa using hj) = y := by
      have := (Array.getElem?_eq_some_iff.mp hy).2; simpa using this
    rw [e1, e2] at this; exact this
theorem asc_on {a : Array KRow} (h : Asc K a.toList) {lo hi : Nat} (hh : hi ≤ a.size) : SortedOn K a lo hi := fun i j _ hij hj => by
  have e1 : a[i]? = some a[i] := getElem?_pos a i (by (exact a3 hij hh hj))
  have e2 : a[j]? = some a[j] := getElem?_pos a j (by (exact a8 hj hh))
  rw [kk_of e1, kk_of e2]
  exact asc_at h hij e1 e2
theorem take1 {a : Array KRow} {i : Nat} {x : KRow} (h : a[i]? = some x) : (a.toList.drop i).take 1 = [x] := by
  have hi : i < a.toList.length := by have := size_of h; simpa using this
  have hx : a.toList[i] = x := by have := (Array.getElem?_eq_some_iff.mp h).2; simpa using this
  rw [List.drop_eq_getElem_cons hi, hx]; rfl
variable {a b out : Array KRow} {ia ib : Nat}
theorem pushB (h : Mrg K a.toList b.toList out.toList ia ib) (hb : Asc K b.toList) {y : KRow} (hy : b[ib]? = some y) (hc : ∀ z ∈ a.toList.drop ia, K y ≤ K z) : Mrg K a.toList b.toList (out.push y).toList ia (ib + 1) := by
  have := h.addB hb 1 (by rw [take1 hy]; intro w hw z hz; cases List.mem_singleton.mp hw; exact hc z hz)
  rw [take1 hy] at this
  simpa using this
theorem pushA (h : Mrg K a.toList b.toList out.toList ia ib) (ha : Asc K a.toList) {y : KRow} (hy : a[ia]? = some y) (hc : ∀ z ∈ b.toList.drop ib, K y ≤ K z) : Mrg K a.toList b.toList (out.push y).toList (ia + 1) ib := (pushB h.swap ha hy hc).swap
theorem extract_list (a : Array KRow) (i k : Nat) : (a.extract i (i + k)).toList = (a.toList.drop i).take k := by
  simp [List.extract_eq_take_drop]
theorem extract_all (a : Array KRow) (i : Nat) : (a.extract i a.size).toList = a.toList.drop i := by
  simp [List.extract_eq_take_drop]
  rw [List.take_of_length_le (by simp)]
theorem blkA (h : Mrg K a.toList b.toList out.toList ia ib) (ha : Asc K a.toList) (k : Nat) (hc : ∀ y ∈ (a.toList.drop ia).take k, ∀ z ∈ b.toList.drop ib, K y ≤ K z) : Mrg K a.toList b.toList (out ++ a.extract ia (ia + k)).toList (ia + k) ib := by
  rw [Array.toList_append, extract_list]; exact h.addA ha k hc
theorem blkB (h : Mrg K a.toList b.toList out.toList ia ib) (hb : Asc K b.toList) (k : Nat) (hc : ∀ y ∈ (b.toList.drop ib).take k, ∀ z ∈ a.toList.drop ia, K y ≤ K z) : Mrg K a.toList b.toList (out ++ b.extract ib (ib + k)).toList ia (ib + k) := by
  rw [Array.toList_append, extract_list]; exact h.addB hb k hc
def Rs (K : KRow → Int) (a b r : Array KRow) : Prop := r.toList.Perm (a.toList ++ b.toList) ∧ Asc K r.toList
theorem doneP (h : Mrg K a.toList b.toList out.toList ia ib) (ha : Asc K a.toList) (hb : Asc K b.toList) (he : b.size ≤ ib ∨ a.size ≤ ia) : Rs K a b (out ++ a.extract ia a.size ++ b.extract ib b.size) := by
  unfold Rs
  rw [Array.toList_append, Array.toList_append, extract_all, extract_all]
  refine h.allA ha hb fun y hy z hz => ?_
  obtain ⟨i, hi⟩ := mem_drop_iff.mp hy
  obtain ⟨j, hj⟩ := mem_drop_iff.mp hz
  have := size_of hi; have := size_of hj
  (exact (a9 ‹_› he this).elim)
theorem lastP (h : Mrg K a.toList b.toList out.toList ia ib) (ha : Asc K a.toList) (hb : Asc K b.toList) (hl : ∀ x ∈ a.toList.drop (a.size - 1), ∀ y ∈ b.toList, K y ≤ K x) (he : ia + 1 = a.size) : Rs K a b (out ++ b.extract ib b.size ++ a.extract ia a.size) := by
  unfold Rs
  rw [Array.toList_append, Array.toList_append, extract_all, extract_all]
  exact h.all ha hb fun y hy z hz => hl z (by rw [show a.size - 1 = ia by (exact a12 he)]; exact hz) y (List.mem_of_mem_drop hy)
/-- what a gallop has told of a block and of what lies behind it -/
theorem gal_lo {k : Nat} {T : Int} (hlo : ∀ i, i < k → kk K a (ia + i) < T) : ∀ y ∈ (a.toList.drop ia).take k, K y < T := fun y hy => by
  obtain ⟨i, hi, h⟩ := mem_block_iff.mp hy
  have := hlo i hi; rw [kk_of h] at this; exact this
theorem gal_hi {k : Nat} {T : Int} (hhi : ∀ i, k ≤ i → i < a.size - ia → ¬ kk K a (ia + i) < T) : ∀ z ∈ a.toList.drop (ia + k), T ≤ K z := fun z hz => by
  obtain ⟨i, h⟩ := mem_drop_iff.mp hz
  rw [Nat.add_assoc] at h
  have := hhi (k + i) (by (exact a13 )) (by have := size_of h; (exact a15 this))
  rw [kk_of h] at this; (exact a21 this)

theorem mergeLo_ok {a b : Array KRow} {st : SortSt} {Q : Array KRow → SortSt → Prop} (L : LtOk M A E s κ S K) (hSa : AllS S a) (hSb : AllS S b) (hst : PyProof.Rows.kindOf st = κ) (ha1 : 1 ≤ a.size) (hb1 : 1 ≤ b.size)
    (ha : Asc K a.toList) (hb : Asc K b.toList) (h0 : ∀ x ∈ b.toList.take 1, ∀ z ∈ a.toList, K x ≤ K z) (hl : ∀ x ∈ a.toList.drop (a.size - 1), ∀ y ∈ b.toList, K y ≤ K x)
    (h : ∀ out st', Rs K a b out → SameG st st' → Q out st') : PyProof.Rows.wpS M A E s (mergeLo' a b) Q st := by
  unfold mergeLo'
  refine wpS_bind (wpS_lift (wpAny_rule ⟨rfl, ?_⟩))
  refine wpS_bind (elem_ok (K := K) (by (exact a20 hb1)) fun x hx hkx => ?_)
  (try dsimp -zeta -zetaHave only)
  have m0 : Mrg K a.toList b.toList (#[x] : Array KRow).toList 0 1 := by
    have h00 : Mrg K a.toList b.toList (#[] : Array KRow).toList 0 0 := ⟨by simp, .nil, fun z hz => by simp at hz⟩
    have := pushB h00 hb hx (fun z hz => h0 x (by have := take1 hx; rw [List.drop_zero] at this; rw [this]; simp) z (by simpa using hz))
    simpa using this
  refine wpS_ite (fun e0 => ?_) fun e0 => ?_
  · skip
    have e0 : 1 = b.size := by simpa using e0
    exact wpS_pure (h _ _ (doneP m0 ha hb (.inl (by (exact a25 ‹_›)))) (.refl st))
  have e0 : ¬ 1 = b.size := by simpa using e0
  refine wpS_ite (fun e1 => ?_) fun e1 => ?_
  · skip
    exact wpS_pure (h _ _ (lastP m0 ha hb hl (by simpa using e1)) (.refl st))
  have e1 : ¬ 0 + 1 = a.size := by simpa using e1
  refine wpS_bind (wpS_get ?_)
  refine wpS_bind (wpS_mono (wpS_forRange
    (I := fun x c st' => SameG st st' ∧ c.1 = none ∧ (Mrg K a.toList b.toList c.2.1.toList c.2.2.1 c.2.2.2.1 ∧ c.2.2.1 + 1 < a.size ∧ c.2.2.2.1 < b.size) ∧ x + 1 ≤ c.2.2.1 + c.2.2.2.1)
    (Q := fun c st' => SameG st st' ∧ ∃ r, c.1 = some r ∧ Rs K a b r) ?step ?fin ⟨.refl st, rfl, ⟨m0, by dsimp only; (exact a33 ha1 ‹_›), by dsimp only; (exact a36 hb1 ‹_›)⟩, by dsimp only; (exact a43 )⟩) ?post)
  case fin =>
    rintro c st' ⟨_, _, ⟨_, h2, h3⟩, h4⟩
    (exact (a58 h4 h2 h3).elim)
  case post =>
    rintro ⟨c1, c2⟩ st' ⟨sg, r, hr, hR⟩
    cases hr
    exact wpS_pure (h r st' hR sg)
  case step =>
    rintro x0 ⟨c1, out, ia, ib, mg⟩ st' _ hx0 ⟨sg, hc1, ⟨m1, hia, hib⟩, hp⟩
    dsimp -zeta -zetaHave only at hc1 m1 hia hib hp ⊢
    subst hc1
    refine wpS_bind (wpS_mono (wpS_forRange
      (I := fun x c st' => SameG st st' ∧ c.1 = none ∧ (Mrg K a.toList b.toList c.2.1.toList c.2.2.1 c.2.2.2.1 ∧ c.2.2.1 + 1 < a.size ∧ c.2.2.2.1 < b.size) ∧ ia + ib + x ≤ c.2.2.1 + c.2.2.2.1)
      (Q := fun c st' => SameG st st' ∧ ((∃ r, c.1 = some r ∧ Rs K a b r) ∨ (c.1 = none ∧ (Mrg K a.toList b.toList c.2.1.toList c.2.2.1 c.2.2.2.1 ∧ c.2.2.1 + 1 < a.size ∧ c.2.2.2.1 < b.size) ∧ ia + ib + 1 ≤ c.2.2.1 + c.2.2.2.1))) ?istep ?ifin ⟨sg, rfl, ⟨m1, hia, hib⟩, Nat.le_refl _⟩) ?ipost)
    case ifin =>
      rintro c st' ⟨_, _, ⟨_, h2, h3⟩, h4⟩
      (exact (a80 h4 h2 hp h3).elim)
    case istep =>
      rintro x1 ⟨c1, out, ia', ib', ac, bc⟩ st' _ hx1 ⟨sg, hc1, ⟨m1, hia, hib⟩, hp1⟩
      dsimp -zeta -zetaHave only at hc1 m1 hia hib hp1 ⊢
      subst hc1
      refine wpS_bind (elem_ok (K := K) hib fun y hy hky => ?_)
      refine wpS_bind (elem_ok (K := K) (by (exact a93 hia)) fun z hz hkz => ?_)
      refine wpS_bind (L _ _ _ _ (hSb _ _ hy) (hSa _ _ hz) (sg.kind.trans hst) ?_)
      (try dsimp -zeta -zetaHave only)
      by_cases hw : K y < K z
      · rw [decide_eq_true hw, if_pos rfl]
        refine wpS_bind (elem_ok (K := K) hib fun y2 hy2 _ => ?_)
        rw [hy] at hy2; cases hy2
        have m2 := pushB m1 hb hy (fun q hq => by
          obtain ⟨j, hj⟩ := mem_drop_iff.mp hq
          have := asc_at ha (Nat.le_add_right _ j) hz hj
          (exact a98 hw this))
        refine wpS_ite (fun e2 => ?_) fun e2 => ?_
        · exact wpS_pure ⟨sg, .inl ⟨_, rfl, doneP m2 ha hb (.inl (beq_le e2))⟩⟩
        have e2 : ¬ ib' + 1 = b.size := by simpa using e2
        refine wpS_ite (fun _ => ?_) fun _ => ?_
        · exact wpS_pure ⟨sg, .inr ⟨rfl, ⟨m2, by dsimp only; (exact hia), by dsimp only; (exact a114 hib ‹_›)⟩, by dsimp only; (exact a121 hp1)⟩⟩
        · exact wpS_pure ⟨sg, rfl, ⟨m2, by dsimp only; (exact hia), by dsimp only; (exact a114 hib ‹_›)⟩, by dsimp only; (exact a129 hp1)⟩
      · rw [decide_eq_false hw, if_neg (by decide)]
        refine wpS_bind (elem_ok (K := K) (by (exact a93 hia)) fun z2 hz2 _ => ?_)
        rw [hz] at hz2; cases hz2
        have m2 := pushA m1 ha hz (fun q hq => by
          obtain ⟨j, hj⟩ := mem_drop_iff.mp hq
          have := asc_at hb (Nat.le_add_right _ j) hy hj
          (exact a139 this hw))
        refine wpS_ite (fun e2 => ?_) fun e2 => ?_
        · exact wpS_pure ⟨sg, .inl ⟨_, rfl, lastP m2 ha hb hl (by simpa using e2)⟩⟩
        have e2 : ¬ ia' + 1 + 1 = a.size := by simpa using e2
        refine wpS_ite (fun _ => ?_) fun _ => ?_
        · exact wpS_pure ⟨sg, .inr ⟨rfl, ⟨m2, by dsimp only; (exact a145 hia ‹_›), by dsimp only; (exact hib)⟩, by dsimp only; (exact a157 hp1)⟩⟩
        · exact wpS_pure ⟨sg, rfl, ⟨m2, by dsimp only; (exact a145 hia ‹_›), by dsimp only; (exact hib)⟩, by dsimp only; (exact a164 hp1)⟩
    case ipost =>
      rintro ⟨c1, out, ia2, ib2, ac, bc⟩ st' ⟨sg, hq⟩
      dsimp -zeta -zetaHave only at hq ⊢
      rcases hq with ⟨r, hr, hR⟩ | ⟨hc1, ⟨m1, hia, hib⟩, hp2⟩
      · cases hr
        exact wpS_pure ⟨sg, r, rfl, hR⟩
      · subst hc1
        (try dsimp -zeta -zetaHave only)
        refine wpS_bind (wpS_lift (wpAny_rule ⟨rfl, ?_⟩))
        refine wpS_bind (wpS_mono (wpS_forRange
          (I := fun x c st' => SameG st st' ∧ c.1 = none ∧ (Mrg K a.toList b.toList c.2.1.toList c.2.2.1 c.2.2.2.1 ∧ c.2.2.1 + 1 < a.size ∧ c.2.2.2.1 < b.size) ∧ ia2 + ib2 + x ≤ c.2.2.1 + c.2.2.2.1)
          (Q := fun c st' => SameG st st' ∧ ((∃ r, c.1 = some r ∧ Rs K a b r) ∨ (c.1 = none ∧ (Mrg K a.toList b.toList c.2.1.toList c.2.2.1 c.2.2.2.1 ∧ c.2.2.1 + 1 < a.size ∧ c.2.2.2.1 < b.size) ∧ ia2 + ib2 ≤ c.2.2.1 + c.2.2.2.1))) ?gstep ?gfin ⟨sg, rfl, ⟨m1, hia, hib⟩, Nat.le_refl _⟩) ?gpost)
        case gfin =>
          rintro c st' ⟨_, _, ⟨_, h2, h3⟩, h4⟩
          (exact (a176 h4 h2 h3).elim)
        case gpost =>
          rintro ⟨c1, out3, ia3, ib3, mg3, ac3, bc3⟩ st' ⟨sg, hq⟩
          dsimp -zeta -zetaHave only at hq ⊢
          rcases hq with ⟨r, hr, hR⟩ | ⟨hc1, ⟨m1, hia, hib⟩, hp3⟩
          · cases hr
            exact wpS_pure ⟨sg, r, rfl, hR⟩
          · subst hc1
            (try dsimp -zeta -zetaHave only)
            refine wpS_bind (wpS_modify (wpS_pure ⟨sg.set _, rfl, ⟨m1, hia, hib⟩, by dsimp only; (exact a180 hp2 hp hp3)⟩))
        case gstep =>
          rintro x2 ⟨c1, out, ia, ib, mg, ac, bc⟩ st' _ hx2 ⟨sg, hc1, ⟨m1, hia, hib⟩, hp3⟩
          dsimp -zeta -zetaHave only at hc1 m1 hia hib hp3 ⊢
          subst hc1
          extract_lets s0 o1 s1 i1 s2 j1 s3 g1 s4 ac1 bc1 j2 jp g2
          refine wpS_opq (fun Q' => (∀ r c st', SameG st st' → Rs K a b r → Q' (.done (some r, c)) st') ∧ (∀ out ia ib x st', SameG st st' → Mrg K a.toList b.toList out.toList ia ib → ia + 1 < a.size → ib < b.size → ia2 + ib2 + (x2 + 1) ≤ ia + ib → Q' (.done (none, out, ia, ib, x)) st' ∧ Q' (.yield (none, out, ia, ib, x)) st')) ⟨fun r c st' sg h => ⟨sg, .inl ⟨r, rfl, h⟩⟩, fun out ia ib x st' sg m h1 h2 h3 => ⟨⟨sg, .inr ⟨rfl, ⟨m, h1, h2⟩, Nat.le_trans (Nat.le_add_right _ _) h3⟩⟩, ⟨sg, rfl, ⟨m, h1, h2⟩, h3⟩⟩⟩ ?_
          rintro QQ ⟨qd, qn⟩
          have hjp : ∀ g, PyProof.Rows.wpS M A E s (jp () g) QQ st' := by
            intro g
            dsimp -zeta -zetaHave only [jp, o1, i1, j1, j2, bc1, s0, s1, s2, s3, s4]
            refine wpS_bind (wpS_modify ?_)
            have sg : SameG st _ := sg.set g
            refine wpS_bind (elem_ok (K := K) hib fun key hkey _ => ?_)
            refine wpS_bind (gallop_ok L (hSb _ _ hkey) hSa (sg.kind.trans hst) (by (exact a195 hia)) (by (exact a204 hia)) (asc_on ha (by (exact a195 hia))) fun k hk hlo hhi => ?_)
            simp only [Bool.false_eq_true, if_false] at hlo hhi
            have lo0 := gal_lo hlo
            have hi0 := gal_hi hhi
            have m2 := blkA m1 ha k (fun w hw z hz => by
              have := lo0 w hw
              obtain ⟨j, hj⟩ := mem_drop_iff.mp hz
              have := asc_at hb (Nat.le_add_right _ j) hkey hj
              (exact a224 ‹_› this))
            (try dsimp -zeta -zetaHave only)
            extract_lets ac2 jp2 o2 i2
            have hjp2 : ∀ (o : Array KRow) (i : Nat) (st₂ : SortSt), SameG st st₂ → Mrg K a.toList b.toList o.toList i ib → (∀ z ∈ a.toList.drop i, K key + 1 ≤ K z) → i + 1 < a.size → ia ≤ i → PyProof.Rows.wpS M A E s (jp2 () o i) QQ st₂ := by
              intro o i st₂ sg m2 hB hi hge
              dsimp -zeta -zetaHave only [jp2]
              refine wpS_bind (elem_ok (K := K) hib fun y hy _ => ?_)
              rw [hkey] at hy; cases hy
              have m3 := pushB m2 hb hkey (fun z hz => by have := hB z hz; (exact a231 this))
              extract_lets o3
              refine wpS_ite (fun e3 => ?_) fun e3 => ?_
              · exact wpS_pure (qd _ _ _ sg (doneP m3 ha hb (.inl (beq_le e3))))
              have e3 : ¬ ib + 1 = b.size := by simpa using e3
              refine wpS_bind (elem_ok (K := K) (by (exact a93 hi)) fun xa hxa _ => ?_)
              refine wpS_bind (gallop_ok L (hSa _ _ hxa) hSb (sg.kind.trans hst) (by (exact a253 hib)) (by (exact a263 hib ‹_›)) (asc_on hb (by (exact a253 hib))) fun k1 hk1 hlo1 hhi1 => ?_)
              simp only [if_true, Int.add_zero] at hlo1 hhi1
              have lo1 := gal_lo hlo1
              have hi1 := gal_hi hhi1
              have m4 := blkB m3 hb k1 (fun w hw z hz => by
                have := lo1 w hw
                obtain ⟨j, hj⟩ := mem_drop_iff.mp hz
                have := asc_at ha (Nat.le_add_right _ j) hxa hj
                (exact a98 ‹_› this))
              (try dsimp -zeta -zetaHave only)
              extract_lets bc2 jp3 o4 j4
              have hjp3 : ∀ (o : Array KRow) (j : Nat), Mrg K a.toList b.toList o.toList i j → (∀ z ∈ b.toList.drop j, K xa ≤ K z) → j < b.size → ib + 1 ≤ j → PyProof.Rows.wpS M A E s (jp3 () o j) QQ st₂ := by
                intro o j m4 hA hj hjb
                dsimp -zeta -zetaHave only [jp3]
                refine wpS_bind (elem_ok (K := K) (by (exact a93 hi)) fun xa2 hxa2 _ => ?_)
                rw [hxa] at hxa2; cases hxa2
                have m5 := pushA m4 ha hxa hA
                dsimp only
                refine wpS_ite (fun e5 => ?_) fun e5 => ?_
                · exact wpS_pure (qd _ _ _ sg (lastP m5 ha hb hl (eq_of_beq e5)))
                have e5 : ¬ i + 1 + 1 = a.size := by simpa using e5
                have q := fun x => qn _ _ _ x _ sg m5 (by (first | lia | omega)) hj (by (exact a291 hp3 hjb hge))
                exact wpS_ite (fun _ => wpS_pure (q _).1) fun _ => wpS_pure (q _).2
              refine wpS_ite (fun hk10 => ?_) fun hk10 => ?_
              · refine wpS_ite (fun e4 => ?_) fun e4 => ?_
                · exact wpS_pure (qd _ _ _ sg (doneP m4 ha hb (.inl (beq_le e4))))
                have e4 : ¬ ib + 1 + k1 = b.size := fun h => e4 (beq_iff_eq.mpr h)
                exact hjp3 _ _ m4 hi1 (by (first | lia | omega)) (by (first | lia | omega))
              · have hk1z : k1 = 0 := by (exact a307 hk10)
                subst hk1z
                exact hjp3 _ _ m3 hi1 (by (exact a114 hib ‹_›)) (Nat.le_refl _)
            refine wpS_ite (fun hk0 => ?_) fun hk0 => ?_
            · refine wpS_ite (fun e1 => ?_) fun e1 => ?_
              · exact wpS_pure (qd _ _ _ sg (lastP m2 ha hb hl (eq_of_beq e1)))
              have e1 : ¬ ia + k + 1 = a.size := fun h => e1 (beq_iff_eq.mpr h)
              refine wpS_ite (fun e2 => ?_) fun e2 => ?_
              · exact wpS_pure (qd _ _ _ sg (doneP m2 ha hb (.inr (beq_le e2))))
              have e2 : ¬ ia + k = a.size := fun h => e2 (beq_iff_eq.mpr h)
              exact hjp2 _ _ _ sg m2 hi0 (by (first | lia | omega)) (by (first | lia | omega))
            · have hkz : k = 0 := by (exact a307 hk0)
              subst hkz
              exact hjp2 _ _ _ sg m1 hi0 hia (Nat.le_refl _)
          exact wpS_ite (fun _ => hjp _) fun _ => hjp _
end
end Mine

set_option autoImplicit false
set_option maxHeartbeats 4000000
set_option maxRecDepth 100000
namespace Mine
open PySem PyProof.Rows

section
variable {M : Model} {A : Around} {E : Value → Shared → Prop} {s : Shared} {κ : SortKind} {S : KRow → Prop} {K : KRow → Int}
variable {a b out : Array KRow} {na nb : Nat}
theorem mem_take_iff {a : Array KRow} {n : Nat} {z : KRow} : z ∈ a.toList.take n ↔ ∃ i, i < n ∧ a[i]? = some z := by
  have := mem_block_iff (a := a) (n := 0) (k := n) (z := z)
  simpa using this
theorem mem_td_iff {a : Array KRow} {n k : Nat} {z : KRow} : z ∈ (a.toList.take n).drop k ↔ ∃ i, k ≤ i ∧ i < n ∧ a[i]? = some z := by
  rw [List.mem_iff_getElem?]
  constructor
  · rintro ⟨i, h⟩
    rw [List.getElem?_drop, List.getElem?_take] at h
    split at h
    · rename_i hi; exact ⟨k + i, by (exact a13 ), hi, by simpa using h⟩
    · cases h
  · rintro ⟨i, h1, h2, h⟩
    exact ⟨i - k, by rw [List.getElem?_drop, List.getElem?_take, show k + (i - k) = i by (exact a64 h1), if_pos h2]; simpa using h⟩
theorem td1 {a : Array KRow} {n : Nat} {x : KRow} (hn : 0 < n) (h : a[n - 1]? = some x) : (a.toList.take n).drop (n - 1) = [x] := by
  have hi := size_of h
  have hl : n - 1 < (a.toList.take n).length := by simp; (exact a61 hi hn)
  have hx : (a.toList.take n)[n - 1] = x := by
    have := (Array.getElem?_eq_some_iff.mp h).2; simpa using this
  rw [List.drop_eq_getElem_cons hl, hx, List.drop_of_length_le (by simp; (exact a74 ))]
theorem extract_td (a : Array KRow) (i n : Nat) : (a.extract i n).toList = (a.toList.take n).drop i := by
  simp [List.extract_eq_take_drop, List.drop_take]
theorem rpushA (h : Mrh K a.toList b.toList out.reverse.toList na nb) (ha : Asc K a.toList) (hn : 0 < na) {y : KRow} (hy : a[na - 1]? = some y) (hc : ∀ z ∈ b.toList.take nb, K z ≤ K y) : Mrh K a.toList b.toList (out.push y).reverse.toList (na - 1) nb := by
  have := h.addA ha (na - 1) (by (exact a59 hn)) (by rw [td1 hn hy]; intro w hw z hz; cases List.mem_singleton.mp hw; exact hc z hz)
  rw [td1 hn hy] at this
  simpa using this
theorem rpushB (h : Mrh K a.toList b.toList out.reverse.toList na nb) (hb : Asc K b.toList) (hn : 0 < nb) {y : KRow} (hy : b[nb - 1]? = some y) (hc : ∀ z ∈ a.toList.take na, K z ≤ K y) : Mrh K a.toList b.toList (out.push y).reverse.toList na (nb - 1) := (rpushA h.swap hb hn hy hc).swap
theorem rblkA (h : Mrh K a.toList b.toList out.reverse.toList na nb) (ha : Asc K a.toList) (k : Nat) (hk : k ≤ na) (hc : ∀ y ∈ (a.toList.take na).drop k, ∀ z ∈ b.toList.take nb, K z ≤ K y) : Mrh K a.toList b.toList (out ++ (a.extract k na).reverse).reverse.toList k nb := by
  have e : (out ++ (a.extract k na).reverse).reverse.toList = (a.toList.take na).drop k ++ out.reverse.toList := by
    rw [← extract_td]; simp
  rw [e]
  exact h.addA ha k hk hc
theorem rblkB (h : Mrh K a.toList b.toList out.reverse.toList na nb) (hb : Asc K b.toList) (k : Nat) (hk : k ≤ nb) (hc : ∀ y ∈ (b.toList.take nb).drop k, ∀ z ∈ a.toList.take na, K z ≤ K y) : Mrh K a.toList b.toList (out ++ (b.extract k nb).reverse).reverse.toList na k := (rblkA h.swap hb k hk hc).swap
theorem extract0 (a : Array KRow) (n : Nat) : (a.extract 0 n).toList = a.toList.take n := by rw [extract_td, List.drop_zero]
theorem rdone (h : Mrh K a.toList b.toList out.reverse.toList na nb) (ha : Asc K a.toList) (hb : Asc K b.toList) (he : na = 0 ∨ nb = 0) : Rs K a b (a.extract 0 na ++ b.extract 0 nb ++ out.reverse) := by
  unfold Rs
  rw [Array.toList_append, Array.toList_append, extract0, extract0]
  refine h.all ha hb fun y hy z hz => ?_
  rcases he with rfl | rfl
  · simp at hy
  · simp at hz
theorem rfirst (h : Mrh K a.toList b.toList out.reverse.toList na nb) (ha : Asc K a.toList) (hb : Asc K b.toList) (h0 : ∀ x ∈ b.toList.take 1, ∀ z ∈ a.toList, K x ≤ K z) (he : nb = 1) : Rs K a b (b.extract 0 nb ++ a.extract 0 na ++ out.reverse) := by
  unfold Rs
  subst he
  rw [Array.toList_append, Array.toList_append, extract0, extract0]
  exact h.allB ha hb fun y hy z hz => h0 y hy z (List.mem_of_mem_take hz)
theorem beq_eq {m n : Nat} (h : (m == n) = true) : m = n := by simpa using h

theorem mergeHi_ok {a b : Array KRow} {st : SortSt} {Q : Array KRow → SortSt → Prop} (L : LtOk M A E s κ S K) (hSa : AllS S a) (hSb : AllS S b) (hst : PyProof.Rows.kindOf st = κ) (ha1 : 1 ≤ a.size) (hb1 : 1 ≤ b.size)
    (ha : Asc K a.toList) (hb : Asc K b.toList) (h0 : ∀ x ∈ b.toList.take 1, ∀ z ∈ a.toList, K x ≤ K z) (hl : ∀ x ∈ a.toList.drop (a.size - 1), ∀ y ∈ b.toList, K y ≤ K x)
    (h : ∀ out st', Rs K a b out → SameG st st' → Q out st') : PyProof.Rows.wpS M A E s (mergeHi' a b) Q st := by
  unfold mergeHi'
  refine wpS_bind (wpS_lift (wpAny_rule ⟨rfl, ?_⟩))
  refine wpS_bind (elem_ok (K := K) (by (exact a82 ha1)) fun x hx hkx => ?_)
  (try dsimp -zeta -zetaHave only)
  have m0 : Mrh K a.toList b.toList (#[x] : Array KRow).reverse.toList (a.size - 1) b.size := by
    have h00 : Mrh K a.toList b.toList (#[] : Array KRow).reverse.toList a.size b.size := ⟨by simp, by simp; exact .nil, fun z hz => by simp at hz⟩
    have := rpushA h00 ha (by (exact a20 ha1)) hx (fun z hz => hl x (mem_drop_iff.mpr ⟨0, by simpa using hx⟩) z (List.mem_of_mem_take hz))
    simpa using this
  by_cases e0 : (a.size - 1 == 0) = true
  · rw [if_pos e0]
    exact wpS_pure (h _ _ (rdone m0 ha hb (.inl (beq_eq e0))) (.refl st))
  rw [if_neg e0]
  have e0 : ¬ a.size - 1 = 0 := by simpa using e0
  by_cases e1 : (b.size == 1) = true
  · rw [if_pos e1]
    exact wpS_pure (h _ _ (rfirst m0 ha hb h0 (beq_eq e1)) (.refl st))
  rw [if_neg e1]
  have e1 : ¬ b.size = 1 := by simpa using e1
  refine wpS_bind (wpS_get ?_)
  refine wpS_bind (wpS_mono (wpS_forRange
    (I := fun x c st' => SameG st st' ∧ c.1 = none ∧ (Mrh K a.toList b.toList c.2.2.2.1.reverse.toList c.2.1 c.2.2.1 ∧ 0 < c.2.1 ∧ 1 < c.2.2.1 ∧ c.2.1 ≤ a.size ∧ c.2.2.1 ≤ b.size) ∧ x + 1 + c.2.1 + c.2.2.1 ≤ a.size + b.size)
    (Q := fun c st' => SameG st st' ∧ ∃ r, c.1 = some r ∧ Rs K a b r) ?step ?fin ⟨.refl st, rfl, ⟨m0, by dsimp only; (exact a101 ‹_›), by dsimp only; (exact a109 hb1 ‹_›), by dsimp only; (exact a117 ha1), by dsimp only; (exact a19 )⟩, by dsimp only; (exact a125 ha1)⟩) ?post)
  case fin =>
    rintro c st' ⟨_, _, ⟨_, h2, h3, _⟩, h4⟩
    (exact (a127 h4).elim)
  case post =>
    rintro ⟨c1, c2⟩ st' ⟨sg, r, hr, hR⟩
    cases hr
    exact wpS_pure (h r st' hR sg)
  case step =>
    rintro x0 ⟨c1, na, nb, out, mg⟩ st' _ hx0 ⟨sg, hc1, ⟨m1, hna, hnb, hna', hnb'⟩, hp⟩
    dsimp -zeta -zetaHave only at hc1 m1 hna hnb hna' hnb' hp ⊢
    subst hc1
    refine wpS_bind (wpS_mono (wpS_forRange
      (I := fun x c st' => SameG st st' ∧ c.1 = none ∧ (Mrh K a.toList b.toList c.2.2.2.1.reverse.toList c.2.1 c.2.2.1 ∧ 0 < c.2.1 ∧ 1 < c.2.2.1 ∧ c.2.1 ≤ a.size ∧ c.2.2.1 ≤ b.size) ∧ c.2.1 + c.2.2.1 + x ≤ na + nb)
      (Q := fun c st' => SameG st st' ∧ ((∃ r, c.1 = some r ∧ Rs K a b r) ∨ (c.1 = none ∧ (Mrh K a.toList b.toList c.2.2.2.1.reverse.toList c.2.1 c.2.2.1 ∧ 0 < c.2.1 ∧ 1 < c.2.2.1 ∧ c.2.1 ≤ a.size ∧ c.2.2.1 ≤ b.size) ∧ c.2.1 + c.2.2.1 + 1 ≤ na + nb))) ?istep ?ifin ⟨sg, rfl, ⟨m1, hna, hnb, hna', hnb'⟩, Nat.le_refl _⟩) ?ipost)
    case ifin =>
      rintro c st' ⟨_, _, ⟨_, h2, h3, _⟩, h4⟩
      (exact (a137 hp h4).elim)
    case istep =>
      rintro x1 ⟨c1, na, nb, out, ac, bc⟩ st' _ hx1 ⟨sg, hc1, ⟨m1, hna, hnb, hna', hnb'⟩, hp1⟩
      dsimp -zeta -zetaHave only at hc1 m1 hna hnb hna' hnb' hp1 ⊢
      subst hc1
      refine wpS_bind (elem_ok (K := K) (by (exact a141 hnb hnb')) fun y hy hky => ?_)
      refine wpS_bind (elem_ok (K := K) (by (exact a146 hna hna')) fun z hz hkz => ?_)
      refine wpS_bind (L _ _ _ _ (hSb _ _ hy) (hSa _ _ hz) (sg.kind.trans hst) ?_)
      (try dsimp -zeta -zetaHave only)
      by_cases hw : K y < K z
      · rw [decide_eq_true hw, if_pos rfl]
        refine wpS_bind (elem_ok (K := K) (by (exact a146 hna hna')) fun z2 hz2 _ => ?_)
        rw [hz] at hz2; cases hz2
        have m2 := rpushA m1 ha hna hz (fun q hq => by
          obtain ⟨j, j1, j3⟩ := mem_take_iff.mp hq
          have := asc_at hb (show j ≤ nb - 1 by (exact a156 j1)) j3 hy
          (exact a159 this hw))
        by_cases e2 : (na - 1 == 0) = true
        · rw [if_pos e2]; exact wpS_pure ⟨sg, .inl ⟨_, rfl, rdone m2 ha hb (.inl (beq_eq e2))⟩⟩
        rw [if_neg e2]
        have e2 : ¬ na - 1 = 0 := by simpa using e2
        split
        · exact wpS_pure ⟨sg, .inr ⟨rfl, ⟨m2, by dsimp only; (exact a101 ‹_›), by dsimp only; (exact hnb), by dsimp only; (exact a171 hna hna'), by dsimp only; (exact hnb')⟩, by dsimp only; (exact a178 hp1 hna)⟩⟩
        · exact wpS_pure ⟨sg, rfl, ⟨m2, by dsimp only; (exact a101 ‹_›), by dsimp only; (exact hnb), by dsimp only; (exact a171 hna hna'), by dsimp only; (exact hnb')⟩, by dsimp only; (exact a192 hp1 hna)⟩
      · rw [decide_eq_false hw, if_neg (by decide)]
        refine wpS_bind (elem_ok (K := K) (by (exact a141 hnb hnb')) fun y2 hy2 _ => ?_)
        rw [hy] at hy2; cases hy2
        have m2 := rpushB m1 hb (by (exact a200 hnb)) hy (fun q hq => by
          obtain ⟨j, j1, j3⟩ := mem_take_iff.mp hq
          have := asc_at ha (show j ≤ na - 1 by (exact a156 j1)) j3 hz
          (exact a208 this hw))
        by_cases e2 : (nb - 1 == 1) = true
        · rw [if_pos e2]; exact wpS_pure ⟨sg, .inl ⟨_, rfl, rfirst m2 ha hb h0 (beq_eq e2)⟩⟩
        rw [if_neg e2]
        have e2 : ¬ nb - 1 = 1 := by simpa using e2
        split
        · exact wpS_pure ⟨sg, .inr ⟨rfl, ⟨m2, by dsimp only; (exact hna), by dsimp only; (exact a213 hnb ‹_›), by dsimp only; (exact hna'), by dsimp only; (exact a219 hnb hnb')⟩, by dsimp only; (exact a222 hp1 hnb)⟩⟩
        · exact wpS_pure ⟨sg, rfl, ⟨m2, by dsimp only; (exact hna), by dsimp only; (exact a213 hnb ‹_›), by dsimp only; (exact hna'), by dsimp only; (exact a219 hnb hnb')⟩, by dsimp only; (exact a233 hp1 hnb)⟩
    case ipost =>
      rintro ⟨c1, na2, nb2, out, ac, bc⟩ st' ⟨sg, hq⟩
      dsimp -zeta -zetaHave only at hq ⊢
      rcases hq with ⟨r, hr, hR⟩ | ⟨hc1, ⟨m1, hna, hnb, hna', hnb'⟩, hp2⟩
      · cases hr
        exact wpS_pure ⟨sg, r, rfl, hR⟩
      · subst hc1
        (try dsimp -zeta -zetaHave only)
        refine wpS_bind (wpS_lift (wpAny_rule ⟨rfl, ?_⟩))
        refine wpS_bind (wpS_mono (wpS_forRange
          (I := fun x c st' => SameG st st' ∧ c.1 = none ∧ (Mrh K a.toList b.toList c.2.2.2.1.reverse.toList c.2.1 c.2.2.1 ∧ 0 < c.2.1 ∧ 1 < c.2.2.1 ∧ c.2.1 ≤ a.size ∧ c.2.2.1 ≤ b.size) ∧ c.2.1 + c.2.2.1 + x ≤ na2 + nb2)
          (Q := fun c st' => SameG st st' ∧ ((∃ r, c.1 = some r ∧ Rs K a b r) ∨ (c.1 = none ∧ (Mrh K a.toList b.toList c.2.2.2.1.reverse.toList c.2.1 c.2.2.1 ∧ 0 < c.2.1 ∧ 1 < c.2.2.1 ∧ c.2.1 ≤ a.size ∧ c.2.2.1 ≤ b.size) ∧ c.2.1 + c.2.2.1 ≤ na2 + nb2))) ?gstep ?gfin ⟨sg, rfl, ⟨m1, hna, hnb, hna', hnb'⟩, Nat.le_refl _⟩) ?gpost)
        case gfin =>
          rintro c st' ⟨_, _, ⟨_, h2, h3, _⟩, h4⟩
          (exact (a241 hp hp2 h4).elim)
        case gpost =>
          rintro ⟨c1, na3, nb3, out3, mg3, ac3, bc3⟩ st' ⟨sg, hq⟩
          dsimp -zeta -zetaHave only at hq ⊢
          rcases hq with ⟨r, hr, hR⟩ | ⟨hc1, ⟨m1, hna, hnb, hna', hnb'⟩, hp3⟩
          · cases hr
            exact wpS_pure ⟨sg, r, rfl, hR⟩
          · subst hc1
            (try dsimp -zeta -zetaHave only)
            refine wpS_bind (wpS_modify (wpS_pure ⟨sg.set _, rfl, ⟨m1, hna, hnb, hna', hnb'⟩, by dsimp only; (exact a245 hp hp2 hp3)⟩))
        case gstep =>
          rintro x2 ⟨c1, na, nb, out, mg, ac, bc⟩ st' _ hx2 ⟨sg, hc1, ⟨m1, hna, hnb, hna', hnb'⟩, hp3⟩
          dsimp -zeta -zetaHave only at hc1 m1 hna hnb hna' hnb' hp3 ⊢
          subst hc1
          extract_lets s0 n1 s1 b1 s2 o1 s3 g1 s4 ac1 bc1 b2 jp g2
          refine wpS_opq (fun Q' => (∀ r c st', SameG st st' → Rs K a b r → Q' (.done (some r, c)) st') ∧ (∀ na nb out x st', SameG st st' → Mrh K a.toList b.toList out.reverse.toList na nb → 0 < na → 1 < nb → na ≤ a.size → nb ≤ b.size → na + nb + (x2 + 1) ≤ na2 + nb2 → Q' (.done (none, na, nb, out, x)) st' ∧ Q' (.yield (none, na, nb, out, x)) st')) ⟨fun r c st' sg h => ⟨sg, .inl ⟨r, rfl, h⟩⟩, fun na nb out x st' sg m h1 h2 h3 h4 h5 => ⟨⟨sg, .inr ⟨rfl, ⟨m, h1, h2, h3, h4⟩, Nat.le_trans (Nat.le_add_right _ _) h5⟩⟩, ⟨sg, rfl, ⟨m, h1, h2, h3, h4⟩, h5⟩⟩⟩ ?_
          rintro QQ ⟨qd, qn⟩
          have hjp : ∀ g, PyProof.Rows.wpS M A E s (jp () g) QQ st' := by
            intro g
            dsimp -zeta -zetaHave only [jp, n1, b1, o1, b2, bc1, s0, s1, s2, s3, s4]
            refine wpS_bind (wpS_modify ?_)
            have sg : SameG st _ := sg.set g
            refine wpS_bind (elem_ok (K := K) (by (exact a141 hnb hnb')) fun key hkey _ => ?_)
            refine wpS_bind (gallop_ok L (hSb _ _ hkey) hSa (sg.kind.trans hst) (by (exact a251 hna')) (by (exact a255 hna)) (asc_on ha (by (exact a251 hna'))) fun k hk hlo hhi => ?_)
            simp only [Bool.false_eq_true, if_false, Nat.zero_add] at hlo hhi
            have m2 := rblkA m1 ha k hk (fun w hw z hz => by
              obtain ⟨i, i1, i2, i3⟩ := mem_td_iff.mp hw
              have := hhi i i1 i2
              rw [kk_of i3] at this
              obtain ⟨j, j1, j3⟩ := mem_take_iff.mp hz
              have := asc_at hb (show j ≤ nb - 1 by (exact a156 j1)) j3 hkey
              (exact a265 this ‹_›))
            have hB1 : ∀ z ∈ a.toList.take k, K z ≤ K key := fun z hz => by
              obtain ⟨j, j1, j3⟩ := mem_take_iff.mp hz
              have := hlo j j1
              rw [kk_of j3] at this
              (exact a270 this)
            (try dsimp -zeta -zetaHave only)
            extract_lets kk2 ac2 jp2 o2 n2
            have hjp2 : ∀ (n : Nat) (o : Array KRow) (st₂ : SortSt), SameG st st₂ → Mrh K a.toList b.toList o.reverse.toList n nb → (∀ z ∈ a.toList.take n, K z ≤ K key) → 0 < n → n ≤ na → PyProof.Rows.wpS M A E s (jp2 () n o) QQ st₂ := by
              intro n o st₂ sg m2 hB hn hle
              dsimp -zeta -zetaHave only [jp2]
              refine wpS_bind (elem_ok (K := K) (by (exact a141 hnb hnb')) fun y hy _ => ?_)
              rw [hkey] at hy; cases hy
              have m3 := rpushB m2 hb (by (exact a200 hnb)) hkey hB
              extract_lets o3
              refine wpS_ite (fun e3 => ?_) fun e3 => ?_
              · exact wpS_pure (qd _ _ _ sg (rfirst m3 ha hb h0 (beq_eq e3)))
              have e3 : ¬ nb - 1 = 1 := by simpa using e3
              refine wpS_bind (elem_ok (K := K) (by (exact a283 hn hle hna')) fun xa hxa _ => ?_)
              refine wpS_bind (gallop_ok L (hSa _ _ hxa) hSb (sg.kind.trans hst) (by (exact a285 hnb hnb')) (by (exact a292 hnb)) (asc_on hb (by (exact a285 hnb hnb'))) fun k1 hk1 hlo1 hhi1 => ?_)
              simp only [if_true, Int.add_zero, Nat.zero_add] at hlo1 hhi1
              have m4 := rblkB m3 hb k1 hk1 (fun w hw z hz => by
                obtain ⟨i, i1, i2, i3⟩ := mem_td_iff.mp hw
                have := hhi1 i i1 i2
                rw [kk_of i3] at this
                obtain ⟨j, j1, j3⟩ := mem_take_iff.mp hz
                have := asc_at ha (show j ≤ n - 1 by (exact a156 j1)) j3 hxa
                (exact a208 this ‹_›))
              have hA1 : ∀ z ∈ b.toList.take k1, K z ≤ K xa := fun z hz => by
                obtain ⟨j, j1, j3⟩ := mem_take_iff.mp hz
                have := hlo1 j j1
                rw [kk_of j3] at this
                (exact a305 this)
              (try dsimp -zeta -zetaHave only)
              extract_lets kk3 bc2 jp3 o4 b4
              have hjp3 : ∀ (m : Nat) (o : Array KRow), Mrh K a.toList b.toList o.reverse.toList n m → (∀ z ∈ b.toList.take m, K z ≤ K xa) → 1 < m → m ≤ nb - 1 → PyProof.Rows.wpS M A E s (jp3 () m o) QQ st₂ := by
                intro m o m4 hA hm hle2
                dsimp only [jp3]
                refine wpS_bind (elem_ok (K := K) (by (first | lia | omega)) fun xa2 hxa2 _ => ?_)
                rw [hxa] at hxa2; cases hxa2
                have m5 := rpushA m4 ha (by (exact hn)) hxa hA
                skip
                refine wpS_ite (fun e5 => ?_) fun e5 => ?_
                · exact wpS_pure (qd _ _ _ sg (rdone m5 ha hb (.inl (beq_eq e5))))
                have e5 : ¬ n - 1 = 0 := by simpa using e5
                have q := fun x => qn _ _ _ x _ sg m5 (by (first | lia | omega)) hm (by (exact a319 hn hle hna')) (by (exact a321 hnb hle2 hnb')) (by (exact a324 hp3 hn hnb hle hle2))
                exact wpS_ite (fun _ => wpS_pure (q _).1) fun _ => wpS_pure (q _).2
              refine wpS_ite (fun hk10 => ?_) fun hk10 => ?_
              · refine wpS_ite (fun e4 => ?_) fun e4 => ?_
                · exact wpS_pure (qd _ _ _ sg (rfirst m4 ha hb h0 (beq_eq e4)))
                have e4 : ¬ k1 = 1 := fun h => e4 (beq_iff_eq.mpr h)
                refine wpS_ite (fun e6 => ?_) fun e6 => ?_
                · exact wpS_pure (qd _ _ _ sg (rdone m4 ha hb (.inr (beq_eq e6))))
                have e6 : ¬ k1 = 0 := fun h => e6 (beq_iff_eq.mpr h)
                exact hjp3 _ _ m4 hA1 (by (exact a326 ‹_› ‹_›)) (by (exact hk1))
              · have hk10 : ¬ nb - 1 - k1 > 0 := hk10
                have hk1z : k1 = nb - 1 := by (first | lia | omega)
                exact hjp3 _ _ m3 (hk1z ▸ hA1) (by (exact a213 hnb ‹_›)) (Nat.le_refl _)
            refine wpS_ite (fun hk0 => ?_) fun hk0 => ?_
            · refine wpS_ite (fun e2 => ?_) fun e2 => ?_
              · exact wpS_pure (qd _ _ _ sg (rdone m2 ha hb (.inl (beq_eq e2))))
              have e2 : ¬ k = 0 := fun h => e2 (beq_iff_eq.mpr h)
              exact hjp2 _ _ _ sg m2 hB1 (by (exact a333 ‹_›)) (by (exact hk))
            · have hk0 : ¬ na - k > 0 := hk0
              have hkz : k = na := by (first | lia | omega)
              exact hjp2 _ _ _ sg m1 (hkz ▸ hB1) hna (Nat.le_refl _)
          exact wpS_ite (fun _ => hjp _) fun _ => hjp _
end
end Mine

set_option autoImplicit false
set_option maxHeartbeats 4000000
set_option maxRecDepth 100000
namespace Mine
open PySem PyProof.Rows

section
variable {M : Model} {A : Around} {E : Value → Shared → Prop} {s : Shared} {κ : SortKind} {S : KRow → Prop} {K : KRow → Int}
def putBack (arr merged : Array KRow) (sa : Nat) : Array KRow := merged.toList.zipIdx.foldl (fun a (p : KRow × Nat) => a.setIfInBounds (sa + p.2) p.1) arr
theorem put_go (sa : Nat) : ∀ (l : List KRow) (n : Nat) (arr : Array KRow), ((l.zipIdx n).foldl (fun a (p : KRow × Nat) => a.setIfInBounds (sa + p.2) p.1) arr).size = arr.size ∧
    ∀ i, ((l.zipIdx n).foldl (fun a (p : KRow × Nat) => a.setIfInBounds (sa + p.2) p.1) arr)[i]? = if sa + n ≤ i ∧ i < sa + n + l.length ∧ i < arr.size then l[i - (sa + n)]? else arr[i]?
  | [], n, arr => ⟨rfl, fun i => by rw [if_neg (by simp only [List.length_nil]; (exact a27 ))]; rfl⟩
  | x :: l, n, arr => by
    rw [List.zipIdx_cons, List.foldl_cons]
    obtain ⟨h1, h2⟩ := put_go sa l (n + 1) (arr.setIfInBounds (sa + n) x)
    refine ⟨h1.trans (Array.size_setIfInBounds ..), fun i => ?_⟩
    rw [h2 i, Array.size_setIfInBounds, Array.getElem?_setIfInBounds]
    simp only [List.length_cons]
    by_cases hi : sa + n = i
    · subst hi
      rw [if_neg (by (exact a37 )), if_pos rfl]
      by_cases hs : sa + n < arr.size
      · rw [if_pos hs, if_pos ⟨by (exact a41 ), by (exact a45 ), hs⟩]; simp
      · rw [if_neg hs, if_neg (by (exact a62 hs))]
        exact (Array.getElem?_eq_none (by (exact a70 hs))).symm
    · by_cases hc : sa + (n + 1) ≤ i ∧ i < sa + (n + 1) + l.length ∧ i < arr.size
      · rw [if_pos hc, if_pos ⟨by (exact a85 hc), by (exact a92 hc), hc.2.2⟩]
        rw [show i - (sa + n) = (i - (sa + (n + 1))) + 1 by (exact a99 hc)]; simp
      · rw [if_neg hc, if_neg hi, if_neg (by (exact a112 hc hi))]
theorem put_size (arr merged : Array KRow) (sa : Nat) : (putBack arr merged sa).size = arr.size := (put_go sa merged.toList 0 arr).1
theorem put_get (arr merged : Array KRow) (sa i : Nat) (h : sa + merged.size ≤ arr.size) : (putBack arr merged sa)[i]? = if sa ≤ i ∧ i < sa + merged.size then merged[i - sa]? else arr[i]? := by
  have := (put_go sa merged.toList 0 arr).2 i
  unfold putBack
  rw [this]
  simp only [Nat.add_zero, Array.length_toList]
  by_cases hc : sa ≤ i ∧ i < sa + merged.size
  · rw [if_pos hc, if_pos ⟨hc.1, hc.2, by (exact a29 h hc)⟩]; simp
  · rw [if_neg hc, if_neg (by (exact a35 hc))]
theorem put_list (arr merged : Array KRow) (sa : Nat) (h : sa + merged.size ≤ arr.size) : (putBack arr merged sa).toList = arr.toList.take sa ++ (merged.toList ++ arr.toList.drop (sa + merged.size)) := by
  apply List.ext_getElem?
  intro i
  rw [Array.getElem?_toList, put_get _ _ _ _ h]
  by_cases h1 : i < sa
  · rw [if_neg (by (exact a28 h1)), List.getElem?_append_left (by simp; (exact a31 h h1)), List.getElem?_take, if_pos h1]; simp
  · rw [List.getElem?_append_right (by simp; (exact a38 h1))]
    have e : (arr.toList.take sa).length = sa := by simp; (exact a44 h)
    rw [e]
    by_cases h2 : i < sa + merged.size
    · rw [if_pos ⟨by (exact a47 h1), h2⟩, List.getElem?_append_left (by simp; (exact a54 h2 h1))]; simp
    · rw [if_neg (by (exact a60 h2)), List.getElem?_append_right (by simp; (exact a66 h2)), List.getElem?_drop]
      simp only [Array.length_toList, Array.getElem?_toList]
      congr 1; (exact a73 h2)

structure SB (κ : SortKind) (a₀ : Array KRow) (st : SortSt) : Prop where
  perm : (arrOf st).toList.Perm a₀.toList
  kind : PyProof.Rows.kindOf st = κ
  failed : failedOf st = none
variable {a₀ : Array KRow}
theorem SB.size {st : SortSt} (h : SB κ a₀ st) : (arrOf st).size = a₀.size := by have := h.perm.length_eq; simpa using this
theorem SB.allS {st : SortSt} (h : SB κ a₀ st) (hS : AllS S a₀) : AllS S (arrOf st) := fun i x hx => by
  have hm : x ∈ (arrOf st).toList := by
    have := (Array.getElem?_eq_some_iff.mp hx).2
    rw [← this]; simp
  have hm' := h.perm.mem_iff.mp hm
  obtain ⟨j, hj, e⟩ := List.getElem_of_mem hm'
  refine hS j x ?_
  have hj' : j < a₀.size := by simpa using hj
  rw [getElem?_pos a₀ j hj']
  congr 1
theorem AllS.extract {a : Array KRow} (h : AllS S a) (i j : Nat) : AllS S (a.extract i j) := fun k x hx => by
  rw [Array.getElem?_extract] at hx
  split at hx
  · exact h _ _ hx
  · cases hx
theorem asc_of_on {a : Array KRow} {i j : Nat} (h : SortedOn K a i j) (hj : j ≤ a.size) : Asc K (a.extract i j).toList := by
  refine List.pairwise_iff_getElem.mpr fun p q hp hq hpq => ?_
  have hp' : p < j - i := by have := hp; simp at this; (exact a142 this)
  have hq' : q < j - i := by have := hq; simp at this; (exact a142 this)
  have e1 : a[i + p]? = some (a.extract i j).toList[p] := by
    rw [getElem?_pos a (i + p) (by (exact a151 hp' hj))]; congr 1; simp
  have e2 : a[i + q]? = some (a.extract i j).toList[q] := by
    rw [getElem?_pos a (i + q) (by (exact a151 hq' hj))]; congr 1; simp
  have := h (i + p) (i + q) (by (exact a13 )) (by (exact a162 hpq)) (by (exact a165 hq'))
  rwa [kk_of e1, kk_of e2] at this
theorem mem_ext_iff {a : Array KRow} {i j : Nat} {z : KRow} : z ∈ (a.extract i j).toList ↔ ∃ p, i ≤ p ∧ p < j ∧ a[p]? = some z := by
  rw [extract_td]; exact mem_td_iff
theorem wpS_set {σ : Type} {st st' : σ} {Q : PUnit → σ → Prop} (h : Q ⟨⟩ st') : PyProof.Rows.wpS M A E s (set st' : StateT σ Sem PUnit) Q st := by
  unfold PyProof.Rows.wpS; rw [StateT.run_set]; exact wpAny_pure ⟨rfl, h⟩

/-- a merge of two neighbouring runs -/
theorem mergeAt_ok {st : SortSt} {i sa na sb nb pw pw' : Nat} {Q : Bool → SortSt → Prop} (L : LtOk M A E s κ S K) (hS : AllS S a₀) (B : SB κ a₀ st) (p1 : (pendingOf st)[i]? = some (sa, na, pw)) (p2 : (pendingOf st)[i + 1]? = some (sb, nb, pw'))
    (hna : 1 ≤ na) (hnb : 1 ≤ nb) (hab : sb = sa + na) (hsz : sb + nb ≤ a₀.size) (h1 : SortedOn K (arrOf st) sa sb) (h2 : SortedOn K (arrOf st) sb (sb + nb))
    (h : ∀ st', SB κ a₀ st' → pendingOf st' = ((pendingOf st).setIfInBounds i (sa, na + nb, pw)).eraseIdxIfInBounds (i + 1) → (∀ j, j < sa ∨ sb + nb ≤ j → (arrOf st')[j]? = (arrOf st)[j]?) → SortedOn K (arrOf st') sa (sb + nb) → Q true st') :
    PyProof.Rows.wpS M A E s (mergeAt' i) Q st := by
  have hS' := B.allS hS
  have hs' : (arrOf st).size = a₀.size := B.size
  unfold mergeAt'
  refine wpS_bind (wpS_get ?_)
  have e1 : (sortPriv% PySem.Builtin.SortState.pending) st = pendingOf st := rfl
  simp only [e1, p1, p2]
  refine wpS_bind (wpS_set ?_)
  generalize hp' : ((pendingOf st).setIfInBounds i (sa, na + nb, pw)).eraseIdxIfInBounds (i + 1) = p' at h ⊢
  have B₁ : SB κ a₀ (SortSt.mk' (PyProof.Rows.kindOf st) (arrOf st) p' (gallopOf st) (failedOf st)) := ⟨B.perm, B.kind, B.failed⟩
  refine wpS_bind (elem_ok (K := K) (by show sb < (arrOf st).size; (exact a149 hsz hnb hs')) fun key hkey hkk => ?_)
  refine wpS_bind (gallop_ok L (hS' _ _ hkey) hS' B.kind (by show sa + na ≤ (arrOf st).size; (exact a154 hsz hs' hab)) (by (exact a20 hna)) (by rw [← hab]; exact h1) fun k hk hlo hhi => ?_)
  simp only [Bool.false_eq_true, if_false] at hlo hhi
  have hlo : ∀ i, i < k → kk K (arrOf st) (sa + i) < K key + 1 := hlo
  have hhi : ∀ i, k ≤ i → i < na → ¬ kk K (arrOf st) (sa + i) < K key + 1 := hhi
  dsimp only
  have hk0 : kk K (arrOf st) sb = K key := kk_of hkey
  by_cases c1 : (na - k == 0) = true
  · rw [if_pos c1]
    have c1 := beq_eq c1
    refine wpS_pure (h _ B₁ rfl (fun _ _ => rfl) fun x y hx hxy hy => ?_)
    show kk K (arrOf st) x ≤ kk K (arrOf st) y
    by_cases hy1 : y < sb
    · exact h1 x y hx hxy hy1
    · by_cases hx1 : x < sb
      · have q1 := hlo (x - sa) (by (exact a161 ‹_› hna hx1 hab))
        rw [show sa + (x - sa) = x by (exact a64 hx)] at q1
        have q2 := h2 sb y (Nat.le_refl _) (by (exact a47 hy1)) hy
        (exact a177 q1 hkk q2)
      · exact h2 x y (by (exact a47 hx1)) hxy hy
  rw [if_neg c1]
  have c1 : ¬ na - k = 0 := by simpa using c1
  refine wpS_bind (elem_ok (K := K) (by show sa + k + (na - k) - 1 < (arrOf st).size; (exact a193 hsz hna hs' hab ‹_›)) fun last hlast hkl => ?_)
  have hlast : (arrOf st)[sb - 1]? = some last := by rw [show sb - 1 = sa + k + (na - k) - 1 by (exact a199 hna hab ‹_›)]; exact hlast
  have hl0 : kk K (arrOf st) (sb - 1) = K last := kk_of hlast
  refine wpS_bind (gallop_ok L (hS' _ _ hlast) hS' B.kind (by show sb + nb ≤ (arrOf st).size; (exact a207 hsz hs')) (by (exact a82 hnb)) h2 fun nb' hnb' hlo2 hhi2 => ?_)
  simp only [if_true, Int.add_zero] at hlo2 hhi2
  have hlo2 : ∀ i, i < nb' → kk K (arrOf st) (sb + i) < K last := hlo2
  have hhi2 : ∀ i, nb' ≤ i → i < nb → ¬ kk K (arrOf st) (sb + i) < K last := hhi2
  dsimp only
  by_cases c2 : (nb' == 0) = true
  · rw [if_pos c2]
    have c2 := beq_eq c2
    refine wpS_pure (h _ B₁ rfl (fun _ _ => rfl) fun x y hx hxy hy => ?_)
    show kk K (arrOf st) x ≤ kk K (arrOf st) y
    by_cases hy1 : y < sb
    · exact h1 x y hx hxy hy1
    · by_cases hx1 : x < sb
      · have q1 := hhi2 (y - sb) (by (exact a217 ‹_›)) (by (exact a223 hnb hy))
        rw [show sb + (y - sb) = y by (exact a228 hy1)] at q1
        have q2 := h1 x (sb - 1) hx (by (exact a156 hx1)) (by (exact a237 hna hab))
        (exact a240 q2 hl0 q1)
      · exact h2 x y (by (exact a47 hx1)) hxy hy
  rw [if_neg c2]
  have c2 : ¬ nb' = 0 := by simpa using c2
  have zx : ((arrOf st).extract (sa + k) sb).size = na - k := by simp; (exact a247 hsz hab hs' ‹_›)
  have zy : ((arrOf st).extract sb (sb + nb')).size = nb' := by simp; (exact a248 hsz hnb' hs')
  have ax : Asc K ((arrOf st).extract (sa + k) sb).toList := asc_of_on (fun x y hx hxy hy => h1 x y (by (exact a67 hx)) hxy hy) (by (exact a252 hsz hs'))
  have ay : Asc K ((arrOf st).extract sb (sb + nb')).toList := asc_of_on (fun x y hx hxy hy => h2 x y hx hxy (by (exact a254 hy hnb'))) (by (exact a257 hsz hnb' hs'))
  have bx : ∀ z ∈ ((arrOf st).extract (sa + k) sb).toList, K key + 1 ≤ K z ∧ K z ≤ K last := fun z hz => by
    obtain ⟨p, q1, q2, q3⟩ := mem_ext_iff.mp hz
    have q4 := hhi (p - sa) (by (exact a186 q1)) (by (exact a262 hna q2 hab))
    rw [show sa + (p - sa) = p by (exact a190 q1), kk_of q3] at q4
    have q5 := h1 p (sb - 1) (by (exact a67 q1)) (by (exact a156 q2)) (by (exact a237 hna hab))
    rw [kk_of q3] at q5
    (exact a276 q5 hl0 q4)
  have by' : ∀ z ∈ ((arrOf st).extract sb (sb + nb')).toList, K key ≤ K z ∧ K z < K last := fun z hz => by
    obtain ⟨p, q1, q2, q3⟩ := mem_ext_iff.mp hz
    have q4 := hlo2 (p - sb) (by (exact a278 q2 ‹_›))
    rw [show sb + (p - sb) = p by (exact a64 q1), kk_of q3] at q4
    have q5 := h2 sb p (Nat.le_refl _) q1 (by (exact a254 q2 hnb'))
    rw [kk_of q3] at q5
    (exact a284 q4 hkk q5)
  have c0 : ∀ x ∈ ((arrOf st).extract sb (sb + nb')).toList.take 1, ∀ z ∈ ((arrOf st).extract (sa + k) sb).toList, K x ≤ K z := fun x hx z hz => by
    obtain ⟨p, q1, q2⟩ := mem_take_iff.mp hx
    have : p = 0 := by (exact a287 q1)
    subst this
    rw [Array.getElem?_extract, if_pos (by (first | lia | omega)), Nat.add_zero, hkey] at q2
    cases q2
    have := (bx z hz).1; (exact a231 this)
  have cl : ∀ x ∈ ((arrOf st).extract (sa + k) sb).toList.drop (((arrOf st).extract (sa + k) sb).size - 1), ∀ y ∈ ((arrOf st).extract sb (sb + nb')).toList, K y ≤ K x := fun x hx y hy => by
    obtain ⟨p, q2⟩ := mem_drop_iff.mp hx
    have hp := size_of q2
    rw [Array.getElem?_extract, if_pos (by (first | lia | omega)), show sa + k + (((arrOf st).extract (sa + k) sb).size - 1 + p) = sb - 1 by (exact a297 hp zx hab ‹_›), hlast] at q2
    cases q2
    exact Int.le_of_lt (by' y hy).2
  have hkl' : K key + 1 ≤ K last := by
    have := hhi (sb - 1 - sa) (by (exact a300 hk hab ‹_›)) (by (exact a303 hna hab))
    rw [show sa + (sb - 1 - sa) = sb - 1 by (exact a308 hna hab)] at this
    (exact a309 hl0 this)
  have fin : ∀ merged st₂, Rs K ((arrOf st).extract (sa + k) sb) ((arrOf st).extract sb (sb + nb')) merged → SameG (SortSt.mk' (PyProof.Rows.kindOf st) (arrOf st) p' (gallopOf st) (failedOf st)) st₂ →
      Q true (SortSt.mk' (PyProof.Rows.kindOf st₂) (putBack (arrOf st₂) merged (sa + k)) (pendingOf st₂) (gallopOf st₂) (failedOf st₂)) := by
    rintro merged st₂ ⟨hperm, hasc⟩ ⟨g, rfl⟩
    have msz : merged.size = na - k + nb' := by
      have := hperm.length_eq; simp only [List.length_append, Array.length_toList, zx, zy] at this; exact this
    have hfit : sa + k + merged.size ≤ (arrOf st).size := by (exact a310 hsz msz hs' hab hnb' ‹_›)
    refine h _ ⟨?_, B.kind, B.failed⟩ rfl (fun j hj => ?_) fun x y hx hxy hy => ?_
    · show (putBack (arrOf st) merged (sa + k)).toList.Perm a₀.toList
      refine List.Perm.trans ?_ B.perm
      rw [put_list _ _ _ hfit]
      have e : (arrOf st).toList = (arrOf st).toList.take (sa + k) ++ ((((arrOf st).extract (sa + k) sb).toList ++ ((arrOf st).extract sb (sb + nb')).toList) ++ (arrOf st).toList.drop (sa + k + merged.size)) := by
        rw [extract_td, extract_td, msz, show sa + k + (na - k + nb') = sb + nb' by (exact a312 hab ‹_›), List.append_assoc]
        rw [← drop_split (arrOf st).toList (show sb ≤ sb + nb' by (exact a13 )), ← drop_split (arrOf st).toList (show sa + k ≤ sb by (exact a315 hk hab)), List.take_append_drop]
      have := ((hperm.append_right ((arrOf st).toList.drop (sa + k + merged.size))).append_left ((arrOf st).toList.take (sa + k)))
      rw [← e] at this
      exact this
    · show (putBack (arrOf st) merged (sa + k))[j]? = (arrOf st)[j]?
      rw [put_get _ _ _ _ hfit, if_neg (by (exact a316 hj msz hab hnb' ‹_›))]
    · show kk K (putBack (arrOf st) merged (sa + k)) x ≤ kk K (putBack (arrOf st) merged (sa + k)) y
      have val : ∀ p, sa ≤ p → p < sb + nb → (p < sa + k ∧ kk K (putBack (arrOf st) merged (sa + k)) p = kk K (arrOf st) p ∧ kk K (arrOf st) p ≤ K key) ∨
          (sa + k ≤ p ∧ p < sb + nb' ∧ ∃ z, merged[p - (sa + k)]? = some z ∧ kk K (putBack (arrOf st) merged (sa + k)) p = K z ∧ K key ≤ K z ∧ K z ≤ K last) ∨
          (sb + nb' ≤ p ∧ kk K (putBack (arrOf st) merged (sa + k)) p = kk K (arrOf st) p ∧ K last ≤ kk K (arrOf st) p) := by
        intro p hp1 hp2
        by_cases g1 : p < sa + k
        · refine .inl ⟨g1, ?_, ?_⟩
          · unfold kk; rw [put_get _ _ _ _ hfit, if_neg (by (exact a318 g1))]
          · have := hlo (p - sa) (by (exact a181 g1 hp1))
            rw [show sa + (p - sa) = p by (exact a64 hp1)] at this; (exact a270 this)
        · by_cases g2 : p < sb + nb'
          · have hm : p - (sa + k) < merged.size := by (exact a322 g2 msz hab ‹_› ‹_›)
            have e := getElem?_pos merged (p - (sa + k)) hm
            have hz : merged[p - (sa + k)] ∈ ((arrOf st).extract (sa + k) sb).toList ++ ((arrOf st).extract sb (sb + nb')).toList := hperm.mem_iff.mp (by simp)
            refine .inr (.inl ⟨by (exact a323 g1), g2, _, e, ?_, ?_⟩)
            · unfold kk; rw [put_get _ _ _ _ hfit, if_pos (by (exact a325 g2 msz hab g1)), e]
            · rcases List.mem_append.mp hz with hz | hz
              · have := bx _ hz; (exact a327 this)
              · have := by' _ hz; (exact a329 this)
          · refine .inr (.inr ⟨by (exact a323 g2), ?_, ?_⟩)
            · unfold kk; rw [put_get _ _ _ _ hfit, if_neg (by (exact a331 msz hab ‹_› g2))]
            · have := hhi2 (p - sb) (by (exact a66 g2)) (by (exact a223 hnb hp2))
              rw [show sb + (p - sb) = p by (exact a332 g2)] at this; (exact a21 this)
      rcases val x hx (by (exact a334 hxy hy)) with ⟨v1, v2, v3⟩ | ⟨v1, v1', z, v2, v3, v4, v5⟩ | ⟨v1, v2, v3⟩ <;> rcases val y (by (first | exact a49 hx hxy | exact a335 v1 hxy hab)) hy with ⟨w1, w2, w3⟩ | ⟨w1, w1', z', w2, w3, w4, w5⟩ | ⟨w1, w2, w3⟩ <;> first
        | (first | exact a338 v2 w3 v3 w4 | exact a339 hkl' v2 w2 v3 w3 | exact (a340 v1 hxy w1).elim | exact a338 v3 w2 v5 w3 | exact (a342 v1 hk w1 hab hxy).elim | exact (a340 v1 hxy w1').elim)
        | (rw [v2, w2]; exact h1 x y hx hxy (by (exact a337 w1 hab hk)))
        | (rw [v3, w3]; exact asc_at hasc (show x - (sa + k) ≤ y - (sa + k) by (exact a341 hxy)) v2 w2)
        | (rw [v2, w2]; exact h2 x y (by (exact a67 v1)) hxy hy)
  have last_step : ∀ merged st₂, Rs K ((arrOf st).extract (sa + k) sb) ((arrOf st).extract sb (sb + nb')) merged → SameG (SortSt.mk' (PyProof.Rows.kindOf st) (arrOf st) p' (gallopOf st) (failedOf st)) st₂ → failedOf st₂ = none := by
    rintro merged st₂ _ ⟨g, rfl⟩; exact B.failed
  split
  · refine wpS_bind (mergeLo_ok L (hS'.extract _ _) (hS'.extract _ _) B.kind (by show 1 ≤ ((arrOf st).extract (sa + k) sb).size; (exact a343 zx ‹_›)) (by show 1 ≤ ((arrOf st).extract sb (sb + nb')).size; (exact a344 zy ‹_›)) ax ay c0 cl fun merged st₂ hR sg => ?_)
    refine wpS_bind (wpS_modify (wpS_bind (wpS_get (wpS_pure ?_))))
    have hf := last_step merged st₂ hR sg
    have := fin merged st₂ hR sg
    show Q (failedOf st₂).isNone _
    rw [hf]; exact this
  · refine wpS_bind (mergeHi_ok L (hS'.extract _ _) (hS'.extract _ _) B.kind (by show 1 ≤ ((arrOf st).extract (sa + k) sb).size; (exact a343 zx ‹_›)) (by show 1 ≤ ((arrOf st).extract sb (sb + nb')).size; (exact a344 zy ‹_›)) ax ay c0 cl fun merged st₂ hR sg => ?_)
    refine wpS_bind (wpS_modify (wpS_bind (wpS_get (wpS_pure ?_))))
    have hf := last_step merged st₂ hR sg
    have := fin merged st₂ hR sg
    show Q (failedOf st₂).isNone _
    rw [hf]; exact this
end
end Mine

set_option autoImplicit false
set_option maxHeartbeats 4000000
set_option maxRecDepth 100000
namespace Mine
open PySem PyProof.Rows

section
variable {M : Model} {A : Around} {E : Value → Shared → Prop} {s : Shared} {κ : SortKind} {S : KRow → Prop} {K : KRow → Int} {a₀ : Array KRow}
theorem ltAt_ok {st : SortSt} {i j : Nat} {Q : Option Bool → SortSt → Prop} (L : LtOk M A E s κ S K) (hS : AllS S a₀) (B : SB κ a₀ st) (hi : i < a₀.size) (hj : j < a₀.size)
    (h : Q (some (decide (kk K (arrOf st) i < kk K (arrOf st) j))) st) : PyProof.Rows.wpS M A E s (ltAt' i j) Q st := by
  have hz := B.size
  have hS' := B.allS hS
  rw [ltAt'_eq]
  refine wpS_bind (wpS_get ?_)
  refine wpS_bind (elem_ok (K := K) (by show i < (arrOf st).size; (exact a23 hi hz)) fun x hx hkx => ?_)
  refine wpS_bind (elem_ok (K := K) (by show j < (arrOf st).size; (exact a23 hj hz)) fun y hy hky => ?_)
  have hkx : kk K (arrOf st) i = K x := hkx
  have hky : kk K (arrOf st) j = K y := hky
  rw [hkx, hky] at h
  exact L _ _ _ _ (hS' _ _ hx) (hS' _ _ hy) B.kind h

/-- nothing outside [lo, hi) has changed -/
structure Frm (lo hi : Nat) (st st' : SortSt) : Prop where
  pend : pendingOf st' = pendingOf st
  out : ∀ j, j < lo ∨ hi ≤ j → (arrOf st')[j]? = (arrOf st)[j]?
theorem Frm.refl (lo hi : Nat) (st : SortSt) : Frm lo hi st st := ⟨rfl, fun _ _ => rfl⟩
theorem Frm.trans {lo hi : Nat} {a b c : SortSt} (x : Frm lo hi a b) (y : Frm lo hi b c) : Frm lo hi a c := ⟨y.pend.trans x.pend, fun j hj => (y.out j hj).trans (x.out j hj)⟩
theorem Frm.up {lo hi hi' : Nat} {a b : SortSt} (x : Frm lo hi a b) (h : hi ≤ hi') : Frm lo hi' a b := ⟨x.pend, fun j hj => x.out j (by (exact a32 hj h))⟩
theorem SB.arr {st : SortSt} (B : SB κ a₀ st) {xs : Array KRow} (hp : xs.Perm (arrOf st)) : SB κ a₀ (setArr st xs) := ⟨(Array.perm_iff_toList_perm.mp hp).trans B.perm, B.kind, B.failed⟩
theorem kk_bubble {xs : Array KRow} {src d : Nat} (hs : src < xs.size) (hd : d ≤ src) (k : Nat) : kk K (bubble xs src d) k = if k = src - d then kk K xs src else if src - d < k ∧ k ≤ src then kk K xs (k - 1) else kk K xs k := by
  have e := getElem?_bubble hs d hd k
  unfold kk
  rw [e]
  repeat' split
  all_goals first | rfl | (exfalso; (first | lia | omega)) | simp_all

theorem binarySort_ok {st : SortSt} {lo n ok : Nat} {Q : Bool → SortSt → Prop} (L : LtOk M A E s κ S K) (hS : AllS S a₀) (B : SB κ a₀ st) (hn : lo + n ≤ a₀.size) (hok : ok ≤ n) (hs : SortedOn K (arrOf st) lo (lo + ok))
    (h : ∀ st', SB κ a₀ st' → Frm lo (lo + n) st st' → SortedOn K (arrOf st') lo (lo + n) → Q true st') : PyProof.Rows.wpS M A E s (binarySort' lo n ok) Q st := by
  rw [binarySort'_eq]
  refine wpS_bind (wpS_mono (wpS_forRange (I := fun k c st' => c = (none, ()) ∧ SB κ a₀ st' ∧ Frm lo (lo + n) st st' ∧ SortedOn K (arrOf st') lo (lo + min k n))
    (Q := fun c st' => c = (none, ()) ∧ SB κ a₀ st' ∧ Frm lo (lo + n) st st' ∧ SortedOn K (arrOf st') lo (lo + n)) ?step ?fin ?init) ?post)
  case post =>
    rintro c st' ⟨rfl, B', F', hs'⟩
    exact wpS_pure (h st' B' F' hs')
  case init =>
    refine ⟨rfl, B, .refl _ _ _, fun i j hi hij hj => ?_⟩
    by_cases h1 : ok = 0
    · have : i = j := by (exact a42 hij hj h1 hi)
      subst this; exact Int.le_refl _
    · exact hs i j hi hij (by (exact a46 hj h1))
  case fin =>
    rintro c st' ⟨hc, B', F', hs'⟩
    refine ⟨hc, B', F', ?_⟩
    rwa [show min (max (max ok 1) n) n = n by (exact a57 )] at hs'
  case step =>
    rintro k c st' hak hkn ⟨rfl, B', F', hs'⟩
    rw [show min k n = k by (exact a63 hkn)] at hs'
    have hz := B'.size
    refine wpS_bind (wpS_mono (wpS_forRange (I := fun x c st'' => st' = st'' ∧ ∃ l r, c = (none, l, r) ∧ l ≤ r ∧ r ≤ k ∧ r - l ≤ k - x ∧
        (∀ i, i < l → kk K (arrOf st') (lo + i) ≤ kk K (arrOf st') (lo + k)) ∧ (∀ i, r ≤ i → i < k → kk K (arrOf st') (lo + k) < kk K (arrOf st') (lo + i)))
      (Q := fun c st'' => st' = st'' ∧ ∃ l r, c = (none, l, r) ∧ l ≤ k ∧
        (∀ i, i < l → kk K (arrOf st') (lo + i) ≤ kk K (arrOf st') (lo + k)) ∧ (∀ i, l ≤ i → i < k → kk K (arrOf st') (lo + k) < kk K (arrOf st') (lo + i))) ?istep ?ifin ?iinit) ?ipost)
    case iinit => exact ⟨rfl, 0, k, rfl, by (exact a69 ), by (exact a19 ), by (exact a75 ), fun i hi => by (exact (a76 hi).elim), fun i h1 h2 => by (exact (a83 h2 h1).elim)⟩
    case ifin =>
      rintro c st'' ⟨rfl, l, r, rfl, hlr, hrk, hm, hlo, hhi⟩
      have : l = r := by (exact a86 hm hlr)
      subst this
      exact ⟨rfl, l, l, rfl, hrk, hlo, hhi⟩
    case istep =>
      rintro x c st'' _ hxk ⟨rfl, l, r, rfl, hlr, hrk, hm, hlo, hhi⟩
      dsimp only
      by_cases hge : l ≥ r
      · rw [if_pos hge]
        have : l = r := by (exact a89 hlr hge)
        subst this
        exact wpS_pure ⟨rfl, l, l, rfl, hrk, hlo, hhi⟩
      · rw [if_neg hge]
        refine wpS_bind (ltAt_ok L hS B' (by (exact a22 hn hkn)) (by (exact a95 hn hrk hkn hge)) ?_)
        by_cases hless : kk K (arrOf st') (lo + k) < kk K (arrOf st') (lo + (l + r) / 2)
        · simp only [hless, decide_true, if_true]
          refine wpS_pure ⟨rfl, l, (l + r) / 2, rfl, by (exact a108 hge), by (exact a116 hrk hge), by (exact a123 hm hxk), hlo, fun i h1 h2 => ?_⟩
          exact Int.lt_of_lt_of_le hless (hs' _ _ (by (exact a128 )) (by (exact a131 h1)) (by (exact a135 h2)))
        · simp only [hless, decide_false, Bool.false_eq_true, if_false]
          refine wpS_pure ⟨rfl, (l + r) / 2 + 1, r, rfl, by (exact a138 hge), by (exact hrk), by (exact a148 hm hlr hxk), fun i h1 => ?_, hhi⟩
          exact Int.le_trans (hs' (lo + i) (lo + (l + r) / 2) (by (exact a13 )) (by (exact a153 h1)) (by (exact a155 hrk hge))) (Int.not_lt.mp hless)
    case ipost =>
      rintro c st'' ⟨rfl, l, r, rfl, hlk, hlo, hhi⟩
      show PyProof.Rows.wpS _ _ _ _ (do moveDown' (lo + k) (lo + l); pure (ForInStep.yield (none, ()))) _ _
      rw [moveDown'_eq]
      have hks : lo + k < (arrOf st').size := by (exact a160 hn hkn hz)
      refine wpS_bind (wpS_modify (wpS_pure ⟨rfl, B'.arr (bubble_perm _ _ _), F'.trans ⟨rfl, fun j hj => ?_⟩, ?_⟩))
      · show (bubble (arrOf st') (lo + k) (lo + k - (lo + l)))[j]? = _
        rw [getElem?_bubble hks _ (by (exact a166 )), if_neg (by (exact a170 hj hkn hlk)), if_neg (by (exact a172 hj hkn hlk))]
      · rw [show min (k + 1) n = k + 1 by (exact a174 hkn)]
        intro i j hi hij hj
        show kk K (bubble (arrOf st') (lo + k) (lo + k - (lo + l))) i ≤ kk K (bubble (arrOf st') (lo + k) (lo + k - (lo + l))) j
        rw [kk_bubble hks (by (exact a166 )), kk_bubble hks (by (exact a166 )), show lo + k - (lo + k - (lo + l)) = lo + l by (exact a179 hlk)]
        have g1 : ∀ p, lo ≤ p → p < lo + l → kk K (arrOf st') p ≤ kk K (arrOf st') (lo + k) := fun p h1 h2 => by
          have := hlo (p - lo) (by (exact a181 h2 h1)); rwa [show lo + (p - lo) = p by (exact a64 h1)] at this
        have g2 : ∀ p, lo + l ≤ p → p < lo + k → kk K (arrOf st') (lo + k) ≤ kk K (arrOf st') p := fun p h1 h2 => by
          have := hhi (p - lo) (by (exact a186 h1)) (by (exact a188 h1 h2)); rw [show lo + (p - lo) = p by (exact a190 h1)] at this; exact Int.le_of_lt this
        repeat' split
        all_goals first
          | (exfalso; (first | exact a220 ‹_› hij hj ‹_› ‹_› | exact a221 ‹_› hij ‹_› | exact a244 ‹_› hij hj ‹_› ‹_›))
          | exact Int.le_refl _
          | exact g1 _ (by (exact hi)) (by (first | exact a250 hij ‹_› ‹_› | exact a258 hij hj ‹_› ‹_› | exact a277 hij hj ‹_› ‹_› ‹_›))
          | exact g2 _ (by (exact a214 ‹_› hij ‹_›)) (by (exact a216 hj ‹_› hij ‹_›))
          | exact hs' _ _ (by (first | exact a235 ‹_› | exact hi)) (by (first | exact a238 ‹_› hij | exact a264 ‹_› hij ‹_› ‹_› | exact hij)) (by (first | exact a242 ‹_› hj hij | exact a266 ‹_› | exact a282 hj hlk ‹_› ‹_›))
end
end Mine

set_option autoImplicit false
set_option maxHeartbeats 4000000
set_option maxRecDepth 100000
namespace Mine
open PySem PyProof.Rows

section
variable {M : Model} {A : Around} {E : Value → Shared → Prop} {s : Shared} {κ : SortKind} {S : KRow → Prop} {K : KRow → Int} {a₀ : Array KRow}
theorem kk_mirror {xs : Array KRow} {i j : Nat} (hj : j ≤ xs.size) (k : Nat) : kk K (mirror xs i j ((j - i) / 2)) k = if i ≤ k ∧ k < j then kk K xs (i + j - 1 - k) else kk K xs k := by
  have e := getElem?_mirror_all (i := i) hj k
  by_cases hc : i ≤ k ∧ k < j
  · rw [if_pos hc] at e ⊢; unfold kk; rw [e]
  · rw [if_neg hc] at e ⊢; unfold kk; rw [e]
theorem rev_ok {st : SortSt} {i j lo hi : Nat} {Q : Unit → SortSt → Prop} (B : SB κ a₀ st) (hj : j ≤ a₀.size) (hi1 : lo ≤ i) (hj1 : j ≤ hi)
    (h : ∀ st', SB κ a₀ st' → Frm lo hi st st' → (∀ k, kk K (arrOf st') k = if i ≤ k ∧ k < j then kk K (arrOf st) (i + j - 1 - k) else kk K (arrOf st) k) → Q () st') : PyProof.Rows.wpS M A E s (reverseSlice' i j) Q st := by
  have hz := B.size
  rw [reverseSlice'_eq]
  refine wpS_modify (h _ (B.arr (mirror_perm _ _ _ _)) ⟨rfl, fun k hk => ?_⟩ fun k => kk_mirror (by (exact a5 hj hz)) k)
  show (mirror (arrOf st) i j ((j - i) / 2))[k]? = _
  rw [getElem?_mirror_all (by (exact a5 hj hz)), if_neg (by (exact a14 hk hj1 hi1))]
def Dec (K : KRow → Int) (a : Array KRow) (lo hi : Nat) : Prop := ∀ i j, lo ≤ i → i ≤ j → j < hi → kk K a j ≤ kk K a i
theorem dec_of {a : Array KRow} {lo n : Nat} (hs : SortedOn K a lo (lo + n)) (he : kk K a (lo + n - 1) ≤ kk K a lo) (hn : 1 ≤ n) (hl : kk K a (lo + n) < kk K a (lo + n - 1)) : Dec K a lo (lo + (n + 1)) := by
  intro i j hi hij hj
  have h1 : ∀ p, lo ≤ p → p < lo + n → kk K a p = kk K a lo := fun p h1 h2 => by
    have := hs lo p (Nat.le_refl _) h1 h2
    have := hs p (lo + n - 1) h1 (by (exact a4 h2)) (by (exact a7 hn))
    (exact a10 this ‹_› he)
  have h2 := h1 (lo + n - 1) (by (exact a16 hn)) (by (exact a7 hn))
  by_cases hjn : j = lo + n
  · subst hjn
    by_cases hin : i = lo + n
    · subst hin; exact Int.le_refl _
    · rw [h1 i hi (by (exact a26 hij hin))]; (exact a34 hl h2)
  · rw [h1 i hi (by (exact a40 hij hj hjn)), h1 j (by (exact a49 hi hij)) (by (exact a17 hj hjn))]; exact Int.le_refl _

theorem one_on {a : Array KRow} (lo : Nat) : SortedOn K a lo (lo + 1) := fun i j h1 h2 h3 => by
  have : i = j := by (exact a2 h2 h3 h1)
  subst this; exact Int.le_refl _
theorem asc_step {a : Array KRow} {lo x : Nat} (hs : SortedOn K a lo (lo + x)) (hx : 1 ≤ x) (hl : kk K a (lo + x - 1) ≤ kk K a (lo + x)) : SortedOn K a lo (lo + (x + 1)) := fun i j h1 h2 h3 => by
  by_cases hj : j = lo + x
  · subst hj
    by_cases hi : i = lo + x
    · subst hi; exact Int.le_refl _
    · have := hs i (lo + x - 1) h1 (by (exact a6 h2 hi)) (by (exact a7 hx)); (exact a11 this hl)
  · exact hs i j h1 h2 (by (exact a17 h3 hj))

theorem countRun_ok {st : SortSt} {lo nrem : Nat} {Q : Option Nat → SortSt → Prop} (L : LtOk M A E s κ S K) (hS : AllS S a₀) (B : SB κ a₀ st) (hn : lo + nrem ≤ a₀.size) (h1 : 1 ≤ nrem)
    (h : ∀ n st', SB κ a₀ st' → 1 ≤ n → n ≤ nrem → Frm lo (lo + n) st st' → SortedOn K (arrOf st') lo (lo + n) → Q (some n) st') : PyProof.Rows.wpS M A E s (countRun' lo nrem) Q st := by
  unfold countRun'
  refine wpS_bind (wpS_mono (wpS_forRange (I := fun x c st' => st = st' ∧ c = (none, x) ∧ SortedOn K (arrOf st) lo (lo + x))
    (Q := fun c st' => st = st' ∧ ∃ n, c = (none, n) ∧ 1 ≤ n ∧ n ≤ nrem ∧ SortedOn K (arrOf st) lo (lo + n) ∧ (n = nrem ∨ kk K (arrOf st) (lo + n) < kk K (arrOf st) (lo + n - 1))) ?s1 ?f1 ⟨rfl, rfl, one_on _⟩) ?p1)
  case s1 =>
    rintro x c st' hx1 hx ⟨rfl, rfl, hs⟩
    dsimp only
    refine wpS_bind (ltAt_ok L hS B (by (exact a22 hn hx)) (by (exact a24 hn hx1 hx)) ?_)
    dsimp only
    by_cases hl : kk K (arrOf st) (lo + x) < kk K (arrOf st) (lo + x - 1)
    · rw [decide_eq_true hl, if_pos rfl]
      exact wpS_pure ⟨rfl, x, rfl, hx1, by (exact a30 hx), hs, .inr hl⟩
    · rw [decide_eq_false hl, if_neg (by decide)]
      exact wpS_pure ⟨rfl, rfl, asc_step hs (by (exact hx1)) (by (exact a21 hl))⟩
  case f1 =>
    rintro c st' ⟨rfl, rfl, hs⟩
    exact ⟨rfl, _, rfl, by (exact a50 ), by (exact a53 h1), hs, .inl (by (exact a55 h1))⟩
  case p1 =>
    rintro c st' ⟨rfl, n, rfl, hn1, hn2, hs, hlt⟩
    dsimp only
    by_cases c1 : (n == nrem) = true
    · rw [if_pos c1]
      exact wpS_pure (h n st B hn1 hn2 (.refl _ _ _) hs)
    rw [if_neg c1]
    have c1 : ¬ n = nrem := by simpa using c1
    have hlt : kk K (arrOf st) (lo + n) < kk K (arrOf st) (lo + n - 1) := hlt.resolve_left c1
    by_cases c2 : n > 1
    · rw [if_pos c2]
      refine wpS_bind (ltAt_ok L hS B (by (exact a72 hn h1)) (by (exact a78 hn hn1 hn2)) ?_)
      dsimp only
      by_cases hr : kk K (arrOf st) lo < kk K (arrOf st) (lo + n - 1)
      · rw [decide_eq_true hr, if_pos rfl]
        exact wpS_pure (h n st B hn1 hn2 (.refl _ _ _) hs)
      rw [decide_eq_false hr, if_neg (by decide)]
      refine wpS_bind (rev_ok (lo := lo) (hi := lo + n) (K := K) B (by (exact a91 hn hn2)) (Nat.le_refl _) (Nat.le_refl _) fun st₁ B₁ F₁ hk₁ => ?_)
      have D₀ := dec_of hs (by (exact a21 hr)) hn1 hlt
      have hk₁ : ∀ k, kk K (arrOf st₁) k = kk K (arrOf st) k := fun k => by
        rw [hk₁ k]; split
        · have := D₀ lo k (Nat.le_refl _) (by (exact a97 ‹_›)) (by (exact a100 ‹_›))
          have := D₀ lo (lo + (lo + n) - 1 - k) (Nat.le_refl _) (by (exact a107 ‹_›)) (by (exact a111 ‹_›))
          have := hs lo k (Nat.le_refl _) (by (exact a97 ‹_›)) (by (exact a120 ‹_›))
          have := hs lo (lo + (lo + n) - 1 - k) (Nat.le_refl _) (by (exact a107 ‹_›)) (by (exact a126 ‹_›))
          (exact a133 ‹_› ‹_› this ‹_›)
        · rfl
      have D : Dec K (arrOf st₁) lo (lo + (n + 1)) := fun i j q1 q2 q3 => by rw [hk₁, hk₁]; exact D₀ i j q1 q2 q3
      refine wpS_bind (wpS_lift (wpAny_rule ⟨rfl, ?_⟩))
      refine wpS_bind (wpS_mono (wpS_forRange (I := fun x c st' => SB κ a₀ st' ∧ Frm lo (lo + x) st st' ∧ c.1 = none ∧ c.2.1 = x ∧ Dec K (arrOf st') lo (lo + x) ∧ (∀ i, lo + x - (c.2.2 + 1) ≤ i → i < lo + x → kk K (arrOf st') i = kk K (arrOf st') (lo + x - 1)) ∧ c.2.2 + 1 ≤ x)
        (Q := fun c st' => SB κ a₀ st' ∧ c.1 = none ∧ n + 1 ≤ c.2.1 ∧ c.2.1 ≤ nrem ∧ Frm lo (lo + c.2.1) st st' ∧ Dec K (arrOf st') lo (lo + c.2.1) ∧ (∀ i, lo + c.2.1 - (c.2.2 + 1) ≤ i → i < lo + c.2.1 → kk K (arrOf st') i = kk K (arrOf st') (lo + c.2.1 - 1)) ∧ c.2.2 + 1 ≤ c.2.1) ?_ ?_
        ⟨B₁, F₁.up (by (exact a144 )), rfl, rfl, D, fun i q1 q2 => by dsimp only at q1; rw [show i = lo + (n + 1) - 1 by (exact a152 q1 q2)], by dsimp only; (exact a158 )⟩) ?_)
      · rintro x ⟨c1, x', neq⟩ st' hx1 hx ⟨B', F', hc1, hx', D', hq, hle⟩
        dsimp only at hc1 hx' hq hle ⊢
        subst hc1; subst hx'
        refine wpS_bind (ltAt_ok L hS B' (by (exact a22 hn hx)) (by (exact a173 hn hx1 hx)) ?_)
        dsimp only
        by_cases hl : kk K (arrOf st') (lo + x') < kk K (arrOf st') (lo + x' - 1)
        · rw [decide_eq_true hl, if_pos rfl]
          have ext : ∀ st'', (∀ k, kk K (arrOf st'') k = kk K (arrOf st') k) → Dec K (arrOf st'') lo (lo + (x' + 1)) := fun st'' he i j q1 q2 q3 => by
            rw [he, he]
            by_cases hj : j = lo + x'
            · subst hj
              by_cases hi : i = lo + x'
              · subst hi; exact Int.le_refl _
              · have := D' i (lo + x' - 1) q1 (by (exact a6 q2 hi)) (by (exact a184 hx1)); (exact a98 hl this)
            · exact D' i j q1 q2 (by (exact a17 q3 hj))
          by_cases hne : neq > 0
          · rw [if_pos hne]
            refine wpS_bind (rev_ok (lo := lo) (hi := lo + x') (K := K) B' (by (exact a212 hn hx)) (by (exact a218 hle)) (Nat.le_refl _) fun st'' B'' F'' hk'' => ?_)
            have he : ∀ k, kk K (arrOf st'') k = kk K (arrOf st') k := fun k => by
              rw [hk'' k]; split
              · rw [hq k (by (exact a226 ‹_›)) (by (exact a227 ‹_›)), hq _ (by (exact a230 ‹_›)) (by (exact a234 ‹_›))]
              · rfl
            exact wpS_pure ⟨B'', (F'.trans F'').up (by (exact a144 )), rfl, rfl, ext st'' he, fun i q1 q2 => by dsimp only at q1; rw [show i = lo + (x' + 1) - 1 by (exact a152 q1 q2)], by dsimp only; (exact a158 )⟩
          · rw [if_neg hne]
            exact wpS_pure ⟨B', F'.up (by (exact a144 )), rfl, rfl, ext st' (fun _ => rfl), fun i q1 q2 => by dsimp only at q1; rw [show i = lo + (x' + 1) - 1 by (exact a152 q1 q2)], by dsimp only; (exact a158 )⟩
        · rw [decide_eq_false hl, if_neg (by decide)]
          refine wpS_bind (ltAt_ok L hS B' (by (exact a173 hn hx1 hx)) (by (exact a22 hn hx)) ?_)
          dsimp only
          by_cases hg : kk K (arrOf st') (lo + x' - 1) < kk K (arrOf st') (lo + x')
          · rw [decide_eq_true hg, if_pos rfl]
            exact wpS_pure ⟨B', rfl, hx1, by dsimp only; (exact a30 hx), F', D', hq, hle⟩
          · rw [decide_eq_false hg, if_neg (by decide)]
            have heq : kk K (arrOf st') (lo + x') = kk K (arrOf st') (lo + x' - 1) := by (exact a256 hl hg)
            refine wpS_pure ⟨B', F'.up (by (exact a144 )), rfl, rfl, fun i j q1 q2 q3 => ?_, fun i q1 q2 => ?_, by dsimp only; (exact a259 hle)⟩
            · by_cases hj : j = lo + x'
              · subst hj
                by_cases hi : i = lo + x'
                · subst hi; exact Int.le_refl _
                · have := D' i (lo + x' - 1) q1 (by (exact a6 q2 hi)) (by (exact a184 hx1)); (exact a139 this hg)
              · exact D' i j q1 q2 (by (exact a17 q3 hj))
            · dsimp only at q1
              rw [show lo + (x' + 1) - 1 = lo + x' by (exact a268 ), heq]
              by_cases hi : i = lo + x'
              · subst hi; exact heq
              · exact hq i (by (exact a269 q1)) (by (exact a17 q2 hi))
      · rintro ⟨c1, x', neq⟩ st' ⟨B', F', hc1, hx', D', hq, hle⟩
        dsimp only at hc1 hx' hq hle ⊢
        have hx'' : x' = nrem := by (exact a273 hx' hn2 ‹_›)
        rw [← hx'] at F' D' hq hle
        exact ⟨B', hc1, by (exact a275 hn2 hx'' ‹_›), by (exact a48 hx''), F', D', hq, hle⟩
      · rintro ⟨c1, x, neq⟩ st₂ ⟨B₂, hc1, hx1, hx2, F₂, D₂, hq, hle⟩
        dsimp only at hc1 hx1 hx2 F₂ D₂ hq hle ⊢
        subst hc1
        dsimp only
        by_cases hne : neq > 0
        · rw [if_pos hne]
          refine wpS_bind (rev_ok (lo := lo) (hi := lo + x) (K := K) B₂ (by (exact a91 hn hx2)) (by (exact a218 hle)) (Nat.le_refl _) fun st₃ B₃ F₃ hk₃ => ?_)
          have he : ∀ k, kk K (arrOf st₃) k = kk K (arrOf st₂) k := fun k => by
            rw [hk₃ k]; split
            · rw [hq k (by (exact a226 ‹_›)) (by (exact a227 ‹_›)), hq _ (by (exact a230 ‹_›)) (by (exact a234 ‹_›))]
            · rfl
          have D₃ : Dec K (arrOf st₃) lo (lo + x) := fun i j q1 q2 q3 => by rw [he, he]; exact D₂ i j q1 q2 q3
          have F₂ := F₂.trans F₃
          have B₂ := B₃
          refine wpS_bind (rev_ok (lo := lo) (hi := lo + x) (K := K) B₂ (by (exact a91 hn hx2)) (Nat.le_refl _) (Nat.le_refl _) fun st₄ B₄ F₄ hk₄ => ?_)
          have hs₄ : SortedOn K (arrOf st₄) lo (lo + x) := fun i j q1 q2 q3 => by
            rw [hk₄, hk₄, if_pos (by (exact a288 q1 q2 q3)), if_pos (by (exact a289 q1 q3 q2))]
            exact D₃ _ _ (by (exact a293 q3)) (by (exact a294 q3 q2)) (by (exact a295 hx1 q1))
          have F₅ := F₂.trans F₄
          refine wpS_bind (wpS_mono (wpS_forRange (I := fun z c st' => st₄ = st' ∧ c = (none, z) ∧ SortedOn K (arrOf st₄) lo (lo + z))
            (Q := fun c st' => st₄ = st' ∧ ∃ n, c = (none, n) ∧ x ≤ n ∧ n ≤ nrem ∧ SortedOn K (arrOf st₄) lo (lo + n)) ?_ ?_ ⟨rfl, rfl, hs₄⟩) ?_)
          · rintro z c st' hz1 hz ⟨rfl, rfl, hs⟩
            dsimp only
            refine wpS_bind (ltAt_ok L hS B₄ (by (exact a22 hn hz)) (by (exact a298 hn hx1 hz hz1)) ?_)
            dsimp only
            by_cases hl : kk K (arrOf st₄) (lo + z) < kk K (arrOf st₄) (lo + z - 1)
            · rw [decide_eq_true hl, if_pos rfl]
              exact wpS_pure ⟨rfl, z, rfl, hz1, by (exact a30 hz), hs⟩
            · rw [decide_eq_false hl, if_neg (by decide)]
              exact wpS_pure ⟨rfl, rfl, asc_step hs (by (exact a301 hle hz1)) (by (exact a21 hl))⟩
          · rintro c st' ⟨rfl, rfl, hs⟩
            exact ⟨rfl, _, rfl, by (exact a304 ), by (exact a306 hx2), hs⟩
          · rintro c st' ⟨rfl, n', rfl, hn1', hn2', hs⟩
            exact wpS_pure (h n' st₄ B₄ (by (exact a301 hle hn1')) hn2' (F₅.up (by (exact a134 hn1'))) hs)
        · rw [if_neg hne]
          refine wpS_bind (rev_ok (lo := lo) (hi := lo + x) (K := K) B₂ (by (exact a91 hn hx2)) (Nat.le_refl _) (Nat.le_refl _) fun st₄ B₄ F₄ hk₄ => ?_)
          have hs₄ : SortedOn K (arrOf st₄) lo (lo + x) := fun i j q1 q2 q3 => by
            rw [hk₄, hk₄, if_pos (by (exact a288 q1 q2 q3)), if_pos (by (exact a289 q1 q3 q2))]
            exact D₂ _ _ (by (exact a293 q3)) (by (exact a294 q3 q2)) (by (exact a295 hx1 q1))
          have F₅ := F₂.trans F₄
          refine wpS_bind (wpS_mono (wpS_forRange (I := fun z c st' => st₄ = st' ∧ c = (none, z) ∧ SortedOn K (arrOf st₄) lo (lo + z))
            (Q := fun c st' => st₄ = st' ∧ ∃ n, c = (none, n) ∧ x ≤ n ∧ n ≤ nrem ∧ SortedOn K (arrOf st₄) lo (lo + n)) ?_ ?_ ⟨rfl, rfl, hs₄⟩) ?_)
          · rintro z c st' hz1 hz ⟨rfl, rfl, hs⟩
            dsimp only
            refine wpS_bind (ltAt_ok L hS B₄ (by (exact a22 hn hz)) (by (exact a298 hn hx1 hz hz1)) ?_)
            dsimp only
            by_cases hl : kk K (arrOf st₄) (lo + z) < kk K (arrOf st₄) (lo + z - 1)
            · rw [decide_eq_true hl, if_pos rfl]
              exact wpS_pure ⟨rfl, z, rfl, hz1, by (exact a30 hz), hs⟩
            · rw [decide_eq_false hl, if_neg (by decide)]
              exact wpS_pure ⟨rfl, rfl, asc_step hs (by (exact a301 hle hz1)) (by (exact a21 hl))⟩
          · rintro c st' ⟨rfl, rfl, hs⟩
            exact ⟨rfl, _, rfl, by (exact a304 ), by (exact a306 hx2), hs⟩
          · rintro c st' ⟨rfl, n', rfl, hn1', hn2', hs⟩
            exact wpS_pure (h n' st₄ B₄ (by (exact a301 hle hn1')) hn2' (F₅.up (by (exact a134 hn1'))) hs)
    · rw [if_neg c2]
      have hn1' : n = 1 := by (exact a320 hn1 c2)
      have D : Dec K (arrOf st) lo (lo + (n + 1)) := dec_of hs (by rw [hn1']; exact Int.le_refl _) hn1 hlt
      have B₁ := B
      have F₁ : Frm lo (lo + n) st st := .refl _ _ _
      refine wpS_bind (wpS_lift (wpAny_rule ⟨rfl, ?_⟩))
      refine wpS_bind (wpS_mono (wpS_forRange (I := fun x c st' => SB κ a₀ st' ∧ Frm lo (lo + x) st st' ∧ c.1 = none ∧ c.2.1 = x ∧ Dec K (arrOf st') lo (lo + x) ∧ (∀ i, lo + x - (c.2.2 + 1) ≤ i → i < lo + x → kk K (arrOf st') i = kk K (arrOf st') (lo + x - 1)) ∧ c.2.2 + 1 ≤ x)
        (Q := fun c st' => SB κ a₀ st' ∧ c.1 = none ∧ n + 1 ≤ c.2.1 ∧ c.2.1 ≤ nrem ∧ Frm lo (lo + c.2.1) st st' ∧ Dec K (arrOf st') lo (lo + c.2.1) ∧ (∀ i, lo + c.2.1 - (c.2.2 + 1) ≤ i → i < lo + c.2.1 → kk K (arrOf st') i = kk K (arrOf st') (lo + c.2.1 - 1)) ∧ c.2.2 + 1 ≤ c.2.1) ?_ ?_
        ⟨B₁, F₁.up (by (exact a144 )), rfl, rfl, D, fun i q1 q2 => by dsimp only at q1; rw [show i = lo + (n + 1) - 1 by (exact a152 q1 q2)], by dsimp only; (exact a158 )⟩) ?_)
      · rintro x ⟨c1, x', neq⟩ st' hx1 hx ⟨B', F', hc1, hx', D', hq, hle⟩
        dsimp only at hc1 hx' hq hle ⊢
        subst hc1; subst hx'
        refine wpS_bind (ltAt_ok L hS B' (by (exact a22 hn hx)) (by (exact a173 hn hx1 hx)) ?_)
        dsimp only
        by_cases hl : kk K (arrOf st') (lo + x') < kk K (arrOf st') (lo + x' - 1)
        · rw [decide_eq_true hl, if_pos rfl]
          have ext : ∀ st'', (∀ k, kk K (arrOf st'') k = kk K (arrOf st') k) → Dec K (arrOf st'') lo (lo + (x' + 1)) := fun st'' he i j q1 q2 q3 => by
            rw [he, he]
            by_cases hj : j = lo + x'
            · subst hj
              by_cases hi : i = lo + x'
              · subst hi; exact Int.le_refl _
              · have := D' i (lo + x' - 1) q1 (by (exact a6 q2 hi)) (by (exact a184 hx1)); (exact a98 hl this)
            · exact D' i j q1 q2 (by (exact a17 q3 hj))
          by_cases hne : neq > 0
          · rw [if_pos hne]
            refine wpS_bind (rev_ok (lo := lo) (hi := lo + x') (K := K) B' (by (exact a212 hn hx)) (by (exact a218 hle)) (Nat.le_refl _) fun st'' B'' F'' hk'' => ?_)
            have he : ∀ k, kk K (arrOf st'') k = kk K (arrOf st') k := fun k => by
              rw [hk'' k]; split
              · rw [hq k (by (exact a226 ‹_›)) (by (exact a227 ‹_›)), hq _ (by (exact a230 ‹_›)) (by (exact a234 ‹_›))]
              · rfl
            exact wpS_pure ⟨B'', (F'.trans F'').up (by (exact a144 )), rfl, rfl, ext st'' he, fun i q1 q2 => by dsimp only at q1; rw [show i = lo + (x' + 1) - 1 by (exact a152 q1 q2)], by dsimp only; (exact a158 )⟩
          · rw [if_neg hne]
            exact wpS_pure ⟨B', F'.up (by (exact a144 )), rfl, rfl, ext st' (fun _ => rfl), fun i q1 q2 => by dsimp only at q1; rw [show i = lo + (x' + 1) - 1 by (exact a152 q1 q2)], by dsimp only; (exact a158 )⟩
        · rw [decide_eq_false hl, if_neg (by decide)]
          refine wpS_bind (ltAt_ok L hS B' (by (exact a173 hn hx1 hx)) (by (exact a22 hn hx)) ?_)
          dsimp only
          by_cases hg : kk K (arrOf st') (lo + x' - 1) < kk K (arrOf st') (lo + x')
          · rw [decide_eq_true hg, if_pos rfl]
            exact wpS_pure ⟨B', rfl, hx1, by dsimp only; (exact a30 hx), F', D', hq, hle⟩
          · rw [decide_eq_false hg, if_neg (by decide)]
            have heq : kk K (arrOf st') (lo + x') = kk K (arrOf st') (lo + x' - 1) := by (exact a256 hl hg)
            refine wpS_pure ⟨B', F'.up (by (exact a144 )), rfl, rfl, fun i j q1 q2 q3 => ?_, fun i q1 q2 => ?_, by dsimp only; (exact a259 hle)⟩
            · by_cases hj : j = lo + x'
              · subst hj
                by_cases hi : i = lo + x'
                · subst hi; exact Int.le_refl _
                · have := D' i (lo + x' - 1) q1 (by (exact a6 q2 hi)) (by (exact a184 hx1)); (exact a139 this hg)
              · exact D' i j q1 q2 (by (exact a17 q3 hj))
            · dsimp only at q1
              rw [show lo + (x' + 1) - 1 = lo + x' by (exact a268 ), heq]
              by_cases hi : i = lo + x'
              · subst hi; exact heq
              · exact hq i (by (exact a269 q1)) (by (exact a17 q2 hi))
      · rintro ⟨c1, x', neq⟩ st' ⟨B', F', hc1, hx', D', hq, hle⟩
        dsimp only at hc1 hx' hq hle ⊢
        have hx'' : x' = nrem := by (exact a273 hx' hn2 ‹_›)
        rw [← hx'] at F' D' hq hle
        exact ⟨B', hc1, by (exact a275 hn2 hx'' ‹_›), by (exact a48 hx''), F', D', hq, hle⟩
      · rintro ⟨c1, x, neq⟩ st₂ ⟨B₂, hc1, hx1, hx2, F₂, D₂, hq, hle⟩
        dsimp only at hc1 hx1 hx2 F₂ D₂ hq hle ⊢
        subst hc1
        dsimp only
        by_cases hne : neq > 0
        · rw [if_pos hne]
          refine wpS_bind (rev_ok (lo := lo) (hi := lo + x) (K := K) B₂ (by (exact a91 hn hx2)) (by (exact a218 hle)) (Nat.le_refl _) fun st₃ B₃ F₃ hk₃ => ?_)
          have he : ∀ k, kk K (arrOf st₃) k = kk K (arrOf st₂) k := fun k => by
            rw [hk₃ k]; split
            · rw [hq k (by (exact a226 ‹_›)) (by (exact a227 ‹_›)), hq _ (by (exact a230 ‹_›)) (by (exact a234 ‹_›))]
            · rfl
          have D₃ : Dec K (arrOf st₃) lo (lo + x) := fun i j q1 q2 q3 => by rw [he, he]; exact D₂ i j q1 q2 q3
          have F₂ := F₂.trans F₃
          have B₂ := B₃
          refine wpS_bind (rev_ok (lo := lo) (hi := lo + x) (K := K) B₂ (by (exact a91 hn hx2)) (Nat.le_refl _) (Nat.le_refl _) fun st₄ B₄ F₄ hk₄ => ?_)
          have hs₄ : SortedOn K (arrOf st₄) lo (lo + x) := fun i j q1 q2 q3 => by
            rw [hk₄, hk₄, if_pos (by (exact a288 q1 q2 q3)), if_pos (by (exact a289 q1 q3 q2))]
            exact D₃ _ _ (by (exact a293 q3)) (by (exact a294 q3 q2)) (by (exact a295 hx1 q1))
          have F₅ := F₂.trans F₄
          refine wpS_bind (wpS_mono (wpS_forRange (I := fun z c st' => st₄ = st' ∧ c = (none, z) ∧ SortedOn K (arrOf st₄) lo (lo + z))
            (Q := fun c st' => st₄ = st' ∧ ∃ n, c = (none, n) ∧ x ≤ n ∧ n ≤ nrem ∧ SortedOn K (arrOf st₄) lo (lo + n)) ?_ ?_ ⟨rfl, rfl, hs₄⟩) ?_)
          · rintro z c st' hz1 hz ⟨rfl, rfl, hs⟩
            dsimp only
            refine wpS_bind (ltAt_ok L hS B₄ (by (exact a22 hn hz)) (by (exact a298 hn hx1 hz hz1)) ?_)
            dsimp only
            by_cases hl : kk K (arrOf st₄) (lo + z) < kk K (arrOf st₄) (lo + z - 1)
            · rw [decide_eq_true hl, if_pos rfl]
              exact wpS_pure ⟨rfl, z, rfl, hz1, by (exact a30 hz), hs⟩
            · rw [decide_eq_false hl, if_neg (by decide)]
              exact wpS_pure ⟨rfl, rfl, asc_step hs (by (exact a301 hx1 hz1)) (by (exact a21 hl))⟩
          · rintro c st' ⟨rfl, rfl, hs⟩
            exact ⟨rfl, _, rfl, by (exact a304 ), by (exact a306 hx2), hs⟩
          · rintro c st' ⟨rfl, n', rfl, hn1', hn2', hs⟩
            exact wpS_pure (h n' st₄ B₄ (by (exact a301 hx1 hn1')) hn2' (F₅.up (by (exact a134 hn1'))) hs)
        · rw [if_neg hne]
          refine wpS_bind (rev_ok (lo := lo) (hi := lo + x) (K := K) B₂ (by (exact a91 hn hx2)) (Nat.le_refl _) (Nat.le_refl _) fun st₄ B₄ F₄ hk₄ => ?_)
          have hs₄ : SortedOn K (arrOf st₄) lo (lo + x) := fun i j q1 q2 q3 => by
            rw [hk₄, hk₄, if_pos (by (exact a288 q1 q2 q3)), if_pos (by (exact a289 q1 q3 q2))]
            exact D₂ _ _ (by (exact a293 q3)) (by (exact a294 q3 q2)) (by (exact a295 hx1 q1))
          have F₅ := F₂.trans F₄
          refine wpS_bind (wpS_mono (wpS_forRange (I := fun z c st' => st₄ = st' ∧ c = (none, z) ∧ SortedOn K (arrOf st₄) lo (lo + z))
            (Q := fun c st' => st₄ = st' ∧ ∃ n, c = (none, n) ∧ x ≤ n ∧ n ≤ nrem ∧ SortedOn K (arrOf st₄) lo (lo + n)) ?_ ?_ ⟨rfl, rfl, hs₄⟩) ?_)
          · rintro z c st' hz1 hz ⟨rfl, rfl, hs⟩
            dsimp only
            refine wpS_bind (ltAt_ok L hS B₄ (by (exact a22 hn hz)) (by (exact a298 hn hx1 hz hz1)) ?_)
            dsimp only
            by_cases hl : kk K (arrOf st₄) (lo + z) < kk K (arrOf st₄) (lo + z - 1)
            · rw [decide_eq_true hl, if_pos rfl]
              exact wpS_pure ⟨rfl, z, rfl, hz1, by (exact a30 hz), hs⟩
            · rw [decide_eq_false hl, if_neg (by decide)]
              exact wpS_pure ⟨rfl, rfl, asc_step hs (by (exact a301 hx1 hz1)) (by (exact a21 hl))⟩
          · rintro c st' ⟨rfl, rfl, hs⟩
            exact ⟨rfl, _, rfl, by (exact a304 ), by (exact a306 hx2), hs⟩
          · rintro c st' ⟨rfl, n', rfl, hn1', hn2', hs⟩
            exact wpS_pure (h n' st₄ B₄ (by (exact a301 hx1 hn1')) hn2' (F₅.up (by (exact a134 hn1'))) hs)
end
end Mine

set_option autoImplicit false
set_option maxHeartbeats 4000000
set_option maxRecDepth 100000
namespace Mine
open PySem PyProof.Rows

section
variable {M : Model} {A : Around} {E : Value → Shared → Prop} {s : Shared} {κ : SortKind} {S : KRow → Prop} {K : KRow → Int} {a₀ : Array KRow}
/-- the runs of a list of pending ones, side by side from lo to hi -/
def Runs (K : KRow → Int) (a : Array KRow) : List (Nat × Nat × Nat) → Nat → Nat → Prop
  | [], lo, hi => lo = hi
  | (p, n, _) :: r, lo, hi => p = lo ∧ 1 ≤ n ∧ SortedOn K a lo (lo + n) ∧ Runs K a r (lo + n) hi
theorem Runs.le {a : Array KRow} : ∀ {l : List (Nat × Nat × Nat)} {lo hi : Nat}, Runs K a l lo hi → lo + l.length ≤ hi
  | [], lo, hi, h => by have : lo = hi := h; simp; (exact a48 this)
  | (p, n, _) :: r, lo, hi, ⟨_, h2, _, h4⟩ => by have := h4.le; simp; (exact a52 this h2)
theorem SortedOn.same {a b : Array KRow} {lo hi : Nat} (h : SortedOn K a lo hi) (he : ∀ j, lo ≤ j → j < hi → b[j]? = a[j]?) : SortedOn K b lo hi := fun i j h1 h2 h3 => by
  have e1 : kk K b i = kk K a i := by unfold kk; rw [he i h1 (by (exact a51 h2 h3))]
  have e2 : kk K b j = kk K a j := by unfold kk; rw [he j (by (exact a49 h1 h2)) h3]
  rw [e1, e2]; exact h i j h1 h2 h3
theorem Runs.same {a b : Array KRow} : ∀ {l : List (Nat × Nat × Nat)} {lo hi : Nat}, Runs K a l lo hi → (∀ j, lo ≤ j → j < hi → b[j]? = a[j]?) → Runs K b l lo hi
  | [], _, _, h, _ => h
  | (p, n, _) :: r, lo, hi, ⟨h1, h2, h3, h4⟩, he => by
    have := h4.le
    exact ⟨h1, h2, h3.same fun j q1 q2 => he j q1 (by (exact a65 this q2)), h4.same fun j q1 q2 => he j (by (exact a67 q1)) q2⟩
theorem Runs.append {a : Array KRow} : ∀ {l₁ l₂ : List (Nat × Nat × Nat)} {lo hi : Nat}, Runs K a (l₁ ++ l₂) lo hi ↔ ∃ mid, Runs K a l₁ lo mid ∧ Runs K a l₂ mid hi
  | [], l₂, lo, hi => ⟨fun h => ⟨lo, rfl, h⟩, fun ⟨mid, h1, h2⟩ => by have : lo = mid := h1; subst this; exact h2⟩
  | (p, n, w) :: r, l₂, lo, hi => by
    have ih := @Runs.append a r l₂ (lo + n) hi
    constructor
    · rintro ⟨h1, h2, h3, h4⟩
      obtain ⟨mid, h5, h6⟩ := ih.mp h4
      exact ⟨mid, ⟨h1, h2, h3, h5⟩, h6⟩
    · rintro ⟨mid, ⟨h1, h2, h3, h5⟩, h6⟩
      exact ⟨h1, h2, h3, ih.mpr ⟨mid, h5, h6⟩⟩
theorem split2 {α : Type} : ∀ {l : List α} {i : Nat} {x y : α}, l[i]? = some x → l[i + 1]? = some y → l = l.take i ++ x :: y :: l.drop (i + 2)
  | [], _, _, _, h, _ => by simp at h
  | [_], 0, _, _, _, h => by simp at h
  | a :: b :: l, 0, x, y, h1, h2 => by simp at h1 h2; subst h1; subst h2; simp
  | a :: l, i + 1, x, y, h1, h2 => by
    have := split2 (l := l) (i := i) (by simpa using h1) (by simpa using h2)
    simp only [List.take_succ_cons, List.cons_append, List.drop_succ_cons]
    rw [← this]
theorem pend_list {p : Array (Nat × Nat × Nat)} {i sa na sb nb pw pw' : Nat} (p1 : p[i]? = some (sa, na, pw)) (p2 : p[i + 1]? = some (sb, nb, pw')) :
    ((p.setIfInBounds i (sa, na + nb, pw)).eraseIdxIfInBounds (i + 1)).toList = p.toList.take i ++ (sa, na + nb, pw) :: p.toList.drop (i + 2) := by
  have hi : i + 1 < p.size := by rw [Array.getElem?_eq_some_iff] at p2; exact p2.1
  have e : ((p.setIfInBounds i (sa, na + nb, pw)).eraseIdxIfInBounds (i + 1)).toList = (p.toList.set i (sa, na + nb, pw)).eraseIdx (i + 1) := by simp
  rw [e]
  have h := split2 (l := p.toList) (i := i) (by simpa using p1) (by simpa using p2)
  have hl : (p.toList.take i).length = i := by simp; (exact a68 hi)
  rw [h]
  rw [List.set_append_right _ _ (by (exact a48 hl)), hl, Nat.sub_self, List.set_cons_zero, List.eraseIdx_append_of_length_le (by (exact a77 hl)), hl, show i + 1 - i = 1 by (exact a81 )]
  have e2 : List.take i (p.toList.take i ++ (sa, na, pw) :: (sb, nb, pw') :: p.toList.drop (i + 2)) = p.toList.take i := by
    rw [List.take_append_of_le_length (by (exact a0 hl)), List.take_take, Nat.min_self]
  have e3 : List.drop (i + 2) (p.toList.take i ++ (sa, na, pw) :: (sb, nb, pw') :: p.toList.drop (i + 2)) = p.toList.drop (i + 2) := by
    rw [List.drop_append, hl, show i + 2 - i = 2 by (exact a88 ), List.drop_of_length_le (by (exact a90 hl))]; rfl
  rw [e2, e3]; rfl

structure RS (κ : SortKind) (K : KRow → Int) (a₀ : Array KRow) (lo : Nat) (st : SortSt) : Prop where
  b : SB κ a₀ st
  runs : Runs K (arrOf st) (pendingOf st).toList 0 lo
/-- a merge keeps the runs -/
theorem merge_runs {st : SortSt} {i lo : Nat} {Q : Bool → SortSt → Prop} (L : LtOk M A E s κ S K) (hS : AllS S a₀) (R : RS κ K a₀ lo st) (hlo : lo ≤ a₀.size) (hi : i + 1 < (pendingOf st).size)
    (h : ∀ st', RS κ K a₀ lo st' → (pendingOf st').size + 1 = (pendingOf st).size → (∀ j, lo ≤ j → (arrOf st')[j]? = (arrOf st)[j]?) → Q true st') : PyProof.Rows.wpS M A E s (mergeAt' i) Q st := by
  obtain ⟨⟨sa, na, pw⟩, p1⟩ : ∃ x, (pendingOf st)[i]? = some x := ⟨_, getElem?_pos (pendingOf st) i (by (exact a93 hi))⟩
  obtain ⟨⟨sb, nb, pw'⟩, p2⟩ : ∃ x, (pendingOf st)[i + 1]? = some x := ⟨_, getElem?_pos (pendingOf st) (i + 1) hi⟩
  have hl := split2 (l := (pendingOf st).toList) (i := i) (by simpa using p1) (by simpa using p2)
  have hR := R.runs
  rw [hl] at hR
  obtain ⟨mid, r1, r2, r3, r4, r5, r6, r7, r8⟩ := Runs.append.mp hR
  subst r2
  subst r5
  have hle := r8.le
  have hle1 := r1.le
  refine mergeAt_ok L hS R.b p1 p2 r3 r6 rfl (by (exact a103 hle hlo)) r4 r7 fun st' B' hp hout hs => ?_
  refine h st' ⟨B', ?_⟩ ?_ fun j hj => hout j (by (exact a104 hle hj))
  · rw [hp, pend_list p1 p2]
    refine Runs.append.mpr ⟨sa, r1.same fun j _ q2 => hout j (.inl q2), rfl, by (exact a110 r3), ?_, ?_⟩
    · rw [← Nat.add_assoc]; exact hs
    · rw [← Nat.add_assoc]; exact r8.same fun j q1 _ => hout j (by (exact a115 q1))
  · have e := congrArg List.length (pend_list p1 p2)
    rw [← hp] at e
    simp only [Array.length_toList, List.length_append, List.length_cons, List.length_take, List.length_drop] at e
    (exact a119 hi e)
end
end Mine

set_option autoImplicit false
set_option maxHeartbeats 4000000
set_option maxRecDepth 100000
namespace Mine
open PySem PyProof.Rows

section
variable {M : Model} {A : Around} {E : Value → Shared → Prop} {s : Shared} {κ : SortKind} {S : KRow → Prop} {K : KRow → Int} {a₀ : Array KRow}
theorem Runs.modify {a : Array KRow} (f : Nat × Nat × Nat → Nat × Nat × Nat) (hf : ∀ p n w, ∃ w', f (p, n, w) = (p, n, w')) : ∀ {l : List (Nat × Nat × Nat)} {lo hi : Nat} (i : Nat), Runs K a l lo hi → Runs K a (l.modify i f) lo hi
  | [], _, _, 0, h => by simpa using h
  | [], _, _, _ + 1, h => by simpa using h
  | (p, n, w) :: r, lo, hi, 0, h => by
    obtain ⟨w', e⟩ := hf p n w
    rw [List.modify_zero_cons, e]
    exact h
  | (p, n, w) :: r, lo, hi, i + 1, ⟨h1, h2, h3, h4⟩ => by
    rw [List.modify_succ_cons]
    exact ⟨h1, h2, h3, Runs.modify f hf i h4⟩
theorem rs_push {st : SortSt} {lo n : Nat} (R : RS κ K a₀ lo st) (hn : 1 ≤ n) (hs : SortedOn K (arrOf st) lo (lo + n)) : RS κ K a₀ (lo + n) (setPending st ((pendingOf st).push (lo, n, 0))) := by
  refine ⟨⟨R.b.perm, R.b.kind, R.b.failed⟩, ?_⟩
  show Runs K (arrOf st) ((pendingOf st).push (lo, n, 0)).toList 0 (lo + n)
  rw [Array.toList_push]
  exact Runs.append.mpr ⟨lo, R.runs, rfl, hn, hs, rfl⟩
theorem rs_mod {st : SortSt} {lo pw : Nat} (R : RS κ K a₀ lo st) : RS κ K a₀ lo (setPending st ((pendingOf st).modify ((pendingOf st).size - 1) fun (x : Nat × Nat × Nat) => (x.1, x.2.1, pw))) := by
  refine ⟨⟨R.b.perm, R.b.kind, R.b.failed⟩, ?_⟩
  show Runs K (arrOf st) ((pendingOf st).modify ((pendingOf st).size - 1) _).toList 0 lo
  rw [Array.toList_modify]
  exact Runs.modify _ (fun p n w => ⟨pw, rfl⟩) _ R.runs
theorem rs_frame {st st' : SortSt} {lo hi : Nat} (R : RS κ K a₀ lo st) (B' : SB κ a₀ st') (F : Frm lo hi st st') : RS κ K a₀ lo st' := ⟨B', by rw [F.pend]; exact R.runs.same fun j _ q => F.out j (.inl q)⟩

theorem ite_le (c : Prop) [Decidable c] (m : Nat) : (if c then m - 1 else m) ≤ m := by split <;> (first | exact a18  | exact a19 )
theorem sortRuns_ok {st : SortSt} {Q : Unit → SortSt → Prop} (L : LtOk M A E s κ S K) (hS : AllS S a₀) (B : SB κ a₀ st) (hp : pendingOf st = #[]) (h2 : 2 ≤ a₀.size)
    (h : ∀ st', SB κ a₀ st' → SortedOn K (arrOf st') 0 a₀.size → Q () st') : PyProof.Rows.wpS M A E s sortRuns' Q st := by
  rw [sortRuns'_eq]
  refine wpS_bind (wpS_get ?_)
  dsimp only
  simp only [B.size]
  have R₀ : RS κ K a₀ 0 st := ⟨B, by rw [hp]; rfl⟩
  refine wpS_bind (wpS_mono (wpS_forRange (I := fun x c st' => c.1 = none ∧ RS κ K a₀ c.2 st' ∧ c.2 ≤ a₀.size ∧ x ≤ c.2) (Q := fun c st' => c.1 = none ∧ RS κ K a₀ a₀.size st') ?step ?fin ⟨rfl, R₀, by dsimp only; (exact a69 ), by dsimp only; (exact a79 )⟩) ?post)
  case fin =>
    rintro ⟨c1, lo⟩ st' ⟨hc, R', h3, h4⟩
    dsimp only at hc R' h3 h4 ⊢
    have : lo = a₀.size := by (exact a84 h4 h3)
    subst this
    exact ⟨hc, R'⟩
  case step =>
    rintro x ⟨c1, lo⟩ st' _ hx ⟨hc, R', h3, h4⟩
    dsimp only at hc R' h3 h4 ⊢
    subst hc
    by_cases hge : lo ≥ a₀.size
    · rw [if_pos hge]
      have : lo = a₀.size := by (exact a89 h3 hge)
      subst this
      exact wpS_pure ⟨rfl, R'⟩
    rw [if_neg hge]
    refine wpS_bind (countRun_ok L hS R'.b (by (exact a94 hge)) (by (exact a96 hge)) fun n st₁ B₁ n1 n2 F₁ hs₁ => ?_)
    have R₁ := rs_frame R' B₁ F₁
    dsimp only
    by_cases hm : n < minRun' a₀.size a₀.size 0
    · rw [if_pos hm]
      refine wpS_bind (wpS_lift (wpAny_rule ⟨rfl, ?_⟩))
      refine wpS_bind (binarySort_ok L hS B₁ (by (exact a102 n1 n2)) (by (exact a106 hm n2)) hs₁ fun st₂ B₂ F₂ hs₂ => ?_)
      have R₂ := rs_frame R₁ B₂ F₂
      simp only [Bool.not_true, Bool.false_eq_true, if_false]
      generalize hfo : min (a₀.size - lo) (minRun' a₀.size a₀.size 0) = fo at hs₂ F₂ ⊢
      have hfo1 : 1 ≤ fo := by (exact a113 hfo n1 hm n2)
      have hfo2 : lo + fo ≤ a₀.size := by (exact a118 hfo n1 n2)
      refine wpS_bind (wpS_get ?_)
      cases hb : (pendingOf st₂).back? with
      | none =>
        dsimp only
        exact wpS_bind (wpS_modify (wpS_pure ⟨rfl, rs_push R₂ (by (exact hfo1)) hs₂, by dsimp only; (exact hfo2), by dsimp only; (exact a124 hfo1 h4)⟩))
      | some q =>
        obtain ⟨s1, n1, w1⟩ := q
        dsimp only
        refine wpS_bind (wpS_mono (wpS_forRange (I := fun x c st'' => c = (none, ()) ∧ RS κ K a₀ lo st'' ∧ SortedOn K (arrOf st'') lo (lo + fo)) (Q := fun c st'' => c = (none, ()) ∧ RS κ K a₀ lo st'' ∧ SortedOn K (arrOf st'') lo (lo + fo)) ?_ (fun _ _ hh => hh) ⟨rfl, R₂, hs₂⟩) ?_)
        · rintro y c st'' _ _ ⟨rfl, R'', hs''⟩
          refine wpS_bind (wpS_get ?_)
          by_cases hz : (pendingOf st'').size > 1
          · rw [if_pos hz]
            obtain ⟨⟨q1, q2, older⟩, hq⟩ : ∃ x, (pendingOf st'')[(pendingOf st'').size - 2]? = some x := ⟨_, getElem?_pos (pendingOf st'') _ (by (exact a130 hz))⟩
            rw [hq]
            dsimp only
            by_cases ho : older ≤ power' a₀.size (2 * s1 + n1) (2 * s1 + n1 + n1 + fo) a₀.size
            · rw [if_pos ho]; exact wpS_pure ⟨rfl, R'', hs''⟩
            · rw [if_neg ho]
              refine wpS_bind (merge_runs L hS R'' (by (exact a140 hge)) (by (exact a147 hz)) fun st₃ R₃ _ hk => ?_)
              simp only [Bool.not_true, Bool.false_eq_true, if_false]
              exact wpS_pure ⟨rfl, R₃, hs''.same fun j j1 _ => hk j j1⟩
          · rw [if_neg hz]
            exact wpS_pure ⟨rfl, R'', hs''⟩
        · rintro c st₃ ⟨rfl, R₃, hs₃⟩
          dsimp only
          refine wpS_bind (wpS_modify ?_)
          refine wpS_bind (wpS_modify (wpS_pure ⟨rfl, rs_push (rs_mod R₃) (by (exact hfo1)) hs₃, by dsimp only; (exact hfo2), by dsimp only; (exact a124 hfo1 h4)⟩))
    · rw [if_neg hm]
      refine wpS_bind (wpS_get ?_)
      cases hb : (pendingOf st₁).back? with
      | none =>
        dsimp only
        exact wpS_bind (wpS_modify (wpS_pure ⟨rfl, rs_push R₁ (by (exact n1)) hs₁, by dsimp only; (exact a168 n1 n2), by dsimp only; (exact a124 n1 h4)⟩))
      | some q =>
        obtain ⟨s1, n1, w1⟩ := q
        dsimp only
        refine wpS_bind (wpS_mono (wpS_forRange (I := fun x c st'' => c = (none, ()) ∧ RS κ K a₀ lo st'' ∧ SortedOn K (arrOf st'') lo (lo + n)) (Q := fun c st'' => c = (none, ()) ∧ RS κ K a₀ lo st'' ∧ SortedOn K (arrOf st'') lo (lo + n)) ?_ (fun _ _ hh => hh) ⟨rfl, R₁, hs₁⟩) ?_)
        · rintro y c st'' _ _ ⟨rfl, R'', hs''⟩
          refine wpS_bind (wpS_get ?_)
          by_cases hz : (pendingOf st'').size > 1
          · rw [if_pos hz]
            obtain ⟨⟨q1, q2, older⟩, hq⟩ : ∃ x, (pendingOf st'')[(pendingOf st'').size - 2]? = some x := ⟨_, getElem?_pos (pendingOf st'') _ (by (exact a130 hz))⟩
            rw [hq]
            dsimp only
            by_cases ho : older ≤ power' a₀.size (2 * s1 + n1) (2 * s1 + n1 + n1 + n) a₀.size
            · rw [if_pos ho]; exact wpS_pure ⟨rfl, R'', hs''⟩
            · rw [if_neg ho]
              refine wpS_bind (merge_runs L hS R'' (by (exact a140 hge)) (by (exact a147 hz)) fun st₃ R₃ _ hk => ?_)
              simp only [Bool.not_true, Bool.false_eq_true, if_false]
              exact wpS_pure ⟨rfl, R₃, hs''.same fun j j1 _ => hk j j1⟩
          · rw [if_neg hz]
            exact wpS_pure ⟨rfl, R'', hs''⟩
        · rintro c st₃ ⟨rfl, R₃, hs₃⟩
          dsimp only
          refine wpS_bind (wpS_modify ?_)
          refine wpS_bind (wpS_modify (wpS_pure ⟨rfl, rs_push (rs_mod R₃) (by (assumption)) hs₃, by dsimp only; (exact a168 ‹_› n2), by dsimp only; (exact a124 ‹_› h4)⟩))
  case post =>
    rintro ⟨c1, lo⟩ st' ⟨hc, R'⟩
    dsimp only at hc ⊢
    subst hc
    dsimp only
    have hle := R'.runs.le
    refine wpS_bind (wpS_mono (wpS_forRange (I := fun x c st'' => c = (none, ()) ∧ RS κ K a₀ a₀.size st'' ∧ (pendingOf st'').size + x ≤ a₀.size) (Q := fun c st'' => c = (none, ()) ∧ RS κ K a₀ a₀.size st'' ∧ (pendingOf st'').size ≤ 1) ?_ ?_ ⟨rfl, R', by simp at hle; (exact a191 hle)⟩) ?_)
    · rintro y c st'' _ hy ⟨rfl, R'', hz⟩
      refine wpS_bind (wpS_get ?_)
      by_cases hsz : (pendingOf st'').size ≤ 1
      · rw [if_pos hsz]; exact wpS_pure ⟨rfl, R'', hsz⟩
      · rw [if_neg hsz]
        refine wpS_bind (merge_runs L hS R'' (Nat.le_refl _) (Nat.lt_of_le_of_lt (Nat.add_le_add_right (ite_le _ _) 1) (show (pendingOf st'').size - 2 + 1 < (pendingOf st'').size by (exact a197 hsz))) fun st₃ R₃ hz₃ _ => ?_)
        simp only [Bool.not_true, Bool.false_eq_true, if_false]
        exact wpS_pure ⟨rfl, R₃, by (exact a201 hz₃ hz)⟩
    · rintro c st'' ⟨rfl, R'', hz⟩
      exact ⟨rfl, R'', by (exact a202 hz)⟩
    · rintro c st'' ⟨rfl, R'', hz⟩
      refine wpS_pure (h st'' R''.b ?_)
      have hr := R''.runs
      match hl : (pendingOf st'').toList, hr with
      | [], hr => have : 0 = a₀.size := hr
                  (exact (a205 this h2).elim)
      | [(p, n, w)], hr =>
        obtain ⟨_, _, r3, r4⟩ := hr
        have : 0 + n = a₀.size := r4
        rw [this] at r3
        exact r3
      | _ :: _ :: _, _ => have := congrArg List.length hl; simp at this; (exact (a206 this hz).elim)
end
end Mine

set_option autoImplicit false
set_option maxRecDepth 100000
namespace Mine
open PySem PyProof.Rows

/-! ## sorted lists of abstract rows -/
abbrev Row := List Nat × Int
structure SWO (lo : Row → Row → Bool) : Prop where
  irrefl : ∀ a, lo a a = false
  trans : ∀ a b c, lo a b = true → lo b c = true → lo a c = true
  neg : ∀ a b c, lo a c = true → lo a b = true ∨ lo b c = true
def rank (lo : Row → Row → Bool) (rs : List Row) (r : Row) : Nat := (rs.filter fun q => lo q r).length
theorem filter_le {p q : Row → Bool} : ∀ (l : List Row), (∀ x ∈ l, p x = true → q x = true) → (l.filter p).length ≤ (l.filter q).length
  | [], _ => by simp
  | a :: l, h => by
    have ih := filter_le l fun x hx => h x (List.mem_cons_of_mem _ hx)
    have ha := h a (List.mem_cons_self ..)
    rw [List.filter_cons, List.filter_cons]
    by_cases hp : p a = true
    · rw [if_pos hp, if_pos (ha hp)]; simp; omega
    · rw [if_neg hp]; split <;> simp <;> omega
theorem filter_lt {p q : Row → Bool} : ∀ (l : List Row), (∀ x ∈ l, p x = true → q x = true) → (∃ x ∈ l, p x = false ∧ q x = true) → (l.filter p).length < (l.filter q).length
  | [], _, ⟨_, hx, _⟩ => by cases hx
  | a :: l, h, ⟨x, hx, h1, h2⟩ => by
    have hl := fun x hx => h x (List.mem_cons_of_mem a hx)
    have ha := h a (List.mem_cons_self ..)
    rw [List.filter_cons, List.filter_cons]
    rcases List.mem_cons.mp hx with rfl | hx
    · have ih := filter_le l hl
      rw [h1, h2]; simp; omega
    · have ih := filter_lt l hl ⟨x, hx, h1, h2⟩
      by_cases hp : p a = true
      · rw [if_pos hp, if_pos (ha hp)]; simp; omega
      · rw [if_neg hp]; split <;> simp <;> omega
theorem rank_lt {lo : Row → Row → Bool} (W : SWO lo) {rs : List Row} {a b : Row} (ha : a ∈ rs) : lo a b = true ↔ rank lo rs a < rank lo rs b := by
  constructor
  · intro h
    exact filter_lt rs (fun x _ hx => W.trans x a b hx h) ⟨a, ha, W.irrefl a, h⟩
  · intro h
    cases hc : lo a b with
    | true => rfl
    | false =>
      have : rank lo rs b ≤ rank lo rs a := filter_le rs fun x _ hx => by
        rcases W.neg x a b hx with q | q
        · exact q
        · rw [hc] at q; cases q
      omega

section
variable {M : Model} {A : Around} {E : Value → Shared → Prop} {s : Shared} {κ : SortKind}
open Classical in
noncomputable def pick (J : KRow → Row → Prop) (x : KRow) : Row := if h : ∃ r, J x r then Classical.choose h else ([], 0)
theorem pick_eq {J : KRow → Row → Prop} (hinj : ∀ x r r', J x r → J x r' → r = r') {x : KRow} {r : Row} (h : J x r) : pick J x = r := by
  unfold pick
  rw [dif_pos ⟨r, h⟩]
  exact hinj x _ _ (Classical.choose_spec ⟨r, h⟩) h
theorem pick_map {J : KRow → Row → Prop} (hinj : ∀ x r r', J x r → J x r' → r = r') : ∀ {L : List KRow} {rs : List Row}, Paired J L rs → rs = L.map (pick J) ∧ ∀ x ∈ L, J x (pick J x)
  | _, _, .nil => ⟨rfl, fun _ h => by cases h⟩
  | _, _, .cons h t => by
    obtain ⟨e, k⟩ := pick_map hinj t
    refine ⟨by rw [List.map_cons, pick_eq hinj h, ← e], fun x hx => ?_⟩
    rcases List.mem_cons.mp hx with rfl | hx
    · rw [pick_eq hinj h]; exact h
    · exact k x hx
theorem paired_map {J : KRow → Row → Prop} : ∀ {L : List KRow}, (∀ x ∈ L, J x (pick J x)) → Paired J L (L.map (pick J))
  | [], _ => .nil
  | x :: L, h => .cons (h x (List.mem_cons_self ..)) (paired_map fun y hy => h y (List.mem_cons_of_mem _ hy))
theorem lt_of_key {x y : KRow} {st : SortSt} {b : Bool} {Q : Option Bool → SortSt → Prop} (hk : PyProof.Rows.kindOf st = κ) (hc : wpAny M A (keyLt' κ x.1 y.1) (fun c s' => c = b ∧ s' = s) (fun _ _ => False) s) (h : Q (some b) st) : PyProof.Rows.wpS M A E s (lt' x y) Q st := by
  rw [lt'_eq]
  refine wpS_bind (wpS_get ?_)
  rw [hk]
  refine wpS_bind (wpS_lift (wpAny_attempt (wpAny_mono hc (fun c s' hq => ?_) fun _ _ e => e.elim)))
  obtain ⟨rfl, rfl⟩ := hq
  exact ⟨rfl, wpS_pure h⟩
theorem sort_core {J : KRow → Row → Prop} {lo : Row → Row → Bool} (W : SWO lo) (hinj : ∀ x r r', J x r → J x r' → r = r')
    (hcmp : ∀ x y r r', J x r → J y r' → wpAny M A (keyLt' κ x.1 y.1) (fun c s' => c = lo r r' ∧ s' = s) (fun _ _ => False) s) {L : List KRow} {rs : List Row} (hJ : Paired J L rs) (h2 : 2 ≤ L.length) {Q : Unit → SortSt → Prop}
    (h : ∀ st' L' rs', failedOf st' = none → arrOf st' = L'.toArray → Paired J L' rs' → rs'.Perm rs → rs'.Pairwise (fun a b => lo b a = false) → Q () st') :
    PyProof.Rows.wpS M A E s sortRuns' Q (SortSt.mk' κ L.toArray #[] 7 none) := by
  obtain ⟨hrs, hP⟩ := pick_map hinj hJ
  have hL : LtOk M A E s κ (fun x => x ∈ L) (fun x => (rank lo rs (pick J x) : Int)) := fun x y st Q hx hy hk hq => by
    refine lt_of_key hk (hcmp x y _ _ (hP x hx) (hP y hy)) ?_
    have hm : pick J x ∈ rs := by rw [hrs]; exact List.mem_map_of_mem hx
    have e : decide ((rank lo rs (pick J x) : Int) < (rank lo rs (pick J y) : Int)) = lo (pick J x) (pick J y) := by
      have := rank_lt W (b := pick J y) hm
      cases hc : lo (pick J x) (pick J y) with
      | true => rw [decide_eq_true]; have := this.mp hc; omega
      | false => rw [decide_eq_false]; intro hlt; have := this.mpr (by omega); rw [hc] at this; cases this
    rw [← e]; exact hq
  refine sortRuns_ok (a₀ := L.toArray) hL (fun i x hx => ?_) ⟨.refl _, rfl, rfl⟩ rfl (by simpa using h2) fun st' B' hs => ?_
  · have := (Array.getElem?_eq_some_iff.mp hx).2; rw [← this]; simp
  · have hp : (arrOf st').toList.Perm L := by simpa using B'.perm
    have hP' : ∀ x ∈ (arrOf st').toList, J x (pick J x) := fun x hx => hP x (hp.mem_iff.mp hx)
    refine h st' (arrOf st').toList ((arrOf st').toList.map (pick J)) B'.failed (by simp) (paired_map hP') (by rw [hrs]; exact hp.map _) ?_
    have hz : (arrOf st').size = L.toArray.size := B'.size
    refine List.pairwise_iff_getElem.mpr fun i j hi hj hij => ?_
    simp only [List.length_map, Array.length_toList] at hi hj
    have e1 : (arrOf st')[i]? = some (arrOf st')[i] := getElem?_pos _ i hi
    have e2 : (arrOf st')[j]? = some (arrOf st')[j] := getElem?_pos _ j hj
    have := hs i j (Nat.zero_le _) (Nat.le_of_lt hij) (by rw [← hz]; exact hj)
    rw [kk_of e1, kk_of e2] at this
    simp only [List.getElem_map, Array.getElem_toList]
    cases hc : lo (pick J (arrOf st')[j]) (pick J (arrOf st')[i]) with
    | false => rfl
    | true =>
      have hm : pick J (arrOf st')[j] ∈ rs := by rw [hrs]; exact List.mem_map_of_mem (hp.mem_iff.mp (by simp))
      have := (rank_lt W hm).mp hc
      omega
end
def rowLt (a b : Row) : Bool := if a.1 = b.1 then decide (a.2 < b.2) else decide (a.1 < b.1)
def nameLt (a b : Row) : Bool := decide (a.1 < b.1)
theorem list_tri (a b : List Nat) : a < b ∨ a = b ∨ b < a := by
  by_cases h1 : a < b
  · exact .inl h1
  · by_cases h2 : b < a
    · exact .inr (.inr h2)
    · exact .inr (.inl (List.le_antisymm (List.not_lt.mp h2) (List.not_lt.mp h1)))
theorem nameLt_swo : SWO nameLt := by
  refine ⟨fun a => ?_, fun a b c h1 h2 => ?_, fun a b c h => ?_⟩
  · simp [nameLt, List.lt_irrefl]
  · simp only [nameLt, decide_eq_true_eq] at *; exact List.lt_trans h1 h2
  · simp only [nameLt, decide_eq_true_eq] at *
    rcases list_tri a.1 b.1 with q | q | q
    · exact .inl q
    · rw [← q]; exact .inr h
    · exact .inr (List.lt_trans q h)
theorem rowLt_iff (a b : Row) : rowLt a b = true ↔ a.1 < b.1 ∨ (a.1 = b.1 ∧ a.2 < b.2) := by
  unfold rowLt
  split
  · rename_i h; rw [decide_eq_true_eq]
    constructor
    · exact fun q => .inr ⟨h, q⟩
    · rintro (q | q)
      · rw [h] at q; exact absurd q (List.lt_irrefl _)
      · exact q.2
  · rename_i h; rw [decide_eq_true_eq]
    constructor
    · exact fun q => .inl q
    · rintro (q | q)
      · exact q
      · exact absurd q.1 h
theorem rowLt_swo : SWO rowLt := by
  refine ⟨fun a => ?_, fun a b c h1 h2 => ?_, fun a b c h => ?_⟩
  · cases h : rowLt a a with
    | false => rfl
    | true => rcases (rowLt_iff a a).mp h with q | q; exact absurd q (List.lt_irrefl _); omega
  · rw [rowLt_iff] at *
    rcases h1 with h1 | ⟨h1, h1'⟩ <;> rcases h2 with h2 | ⟨h2, h2'⟩
    · exact .inl (List.lt_trans h1 h2)
    · rw [← h2]; exact .inl h1
    · rw [h1]; exact .inl h2
    · exact .inr ⟨h1.trans h2, by omega⟩
  · rw [rowLt_iff, rowLt_iff]
    rw [rowLt_iff] at h
    rcases list_tri a.1 b.1 with q | q | q
    · exact .inl (.inl q)
    · rcases h with h | ⟨h, h'⟩
      · rw [← q]; exact .inr (.inl h)
      · by_cases hb : a.2 < b.2
        · exact .inl (.inr ⟨q, hb⟩)
        · exact .inr (.inr ⟨q.symm.trans h, by omega⟩)
    · rcases h with h | ⟨h, h'⟩
      · exact .inr (.inl (List.lt_trans q h))
      · rw [h] at q; exact .inr (.inl q)
end Mine

set_option autoImplicit false
set_option genSizeOf false
set_option genInjectivity false
namespace Mine
open PySem PyProof.Rows

/-! ## abstract values; frozen objects; lists of a frame's own -/
inductive V where
  | unb | none | bool (b : Bool) | int (i : Int) | str (s : List Nat) | tup (xs : List V) | lst (xs : List V) | scr (xs : List V) | ref (a : Addr) | rng (a b : Int) | prim (v : Value) | obj (P : Addr → Obj → Addr → Obj → Prop)

abbrev Fz := Addr → Option Obj
abbrev Ow := Addr → Option (List V)
noncomputable def Ow.set (σ : Ow) (a : Addr) (xs : List V) : Ow := fun b => if b = a then some xs else σ b
theorem Ow.set_self (σ : Ow) (a : Addr) (xs : List V) : σ.set a xs a = some xs := if_pos rfl
theorem Ow.set_ne (σ : Ow) {a b : Addr} (xs : List V) (h : b ≠ a) : σ.set a xs b = σ b := if_neg h
noncomputable def Fz.add (F : Fz) (a : Addr) (o : Obj) : Fz := fun b => if b = a then some o else F b

def lobj (vs : List Value) (n : Nat) : Obj := { cls := .type "list", data := .seq vs.toArray n }
def tobj (vs : List Value) (n : Nat) : Obj := { cls := .type "tuple", data := .seq vs.toArray n }
mutual
def Rel (F : Fz) : V → Value → Prop
  | .unb, _ => True
  | .none, v => v = .none
  | .bool b, v => v = .bool b
  | .int i, v => ∃ t, v = .int i t
  | .str s, v => ∃ t, v = .str ⟨s.toArray⟩ t
  | .tup xs, v => ∃ a vs, v = .ref a ∧ (∃ n, F a = some (tobj vs n)) ∧ RelL F xs vs
  | .lst xs, v => ∃ a vs, v = .ref a ∧ (∃ n, F a = some (lobj vs n)) ∧ RelL F xs vs
  | .scr xs, v => ∃ a vs, v = .ref a ∧ (∃ o, F a = some o ∧ o.cls = .type "list" ∧ ∃ n, o.data = .seq vs.toArray n) ∧ RelL F xs vs
  | .ref a, v => v = .ref a
  | .rng a b, v => (-(2 ^ 62) ≤ a ∧ a < 2 ^ 62 ∧ -(2 ^ 62) ≤ b ∧ b < 2 ^ 62) ∧ ∃ r t u w, v = .ref r ∧ F r = some { cls := .type "range", dict := none, data := .fields #[.int a t, .int b u, .int 1 w], slots := #[] }
  | .prim w, v => v = w
  | .obj P, v => ∃ a o d od, v = .ref a ∧ F a = some o ∧ F d = some od ∧ P a o d od
def RelL (F : Fz) : List V → List Value → Prop
  | [], vs => vs = []
  | x :: xs, vs => ∃ v ws, vs = v :: ws ∧ Rel F x v ∧ RelL F xs ws
end
mutual
theorem Rel.mono {F F' : Fz} (k : ∀ a o, F a = some o → F' a = some o) : ∀ {x : V} {v : Value}, Rel F x v → Rel F' x v
  | .unb, _, _ => trivial
  | .none, _, r => r
  | .bool _, _, r => r
  | .int _, _, r => r
  | .str _, _, r => r
  | .tup _, _, r => r.imp fun _ r => r.imp fun _ r => ⟨r.1, r.2.1.imp fun _ => k _ _, RelL.mono k r.2.2⟩
  | .lst _, _, r => r.imp fun _ r => r.imp fun _ r => ⟨r.1, r.2.1.imp fun _ => k _ _, RelL.mono k r.2.2⟩
  | .scr _, _, r => r.imp fun _ r => r.imp fun _ r => ⟨r.1, r.2.1.imp fun _ q => ⟨k _ _ q.1, q.2⟩, RelL.mono k r.2.2⟩
  | .ref _, _, r => r
  | .rng _ _, _, r => ⟨r.1, r.2.imp fun _ r => r.imp fun _ r => r.imp fun _ r => r.imp fun _ r => ⟨r.1, k _ _ r.2⟩⟩
  | .prim _, _, r => r
  | .obj _, _, r => r.imp fun _ r => r.imp fun _ r => r.imp fun _ r => r.imp fun _ r => ⟨r.1, k _ _ r.2.1, k _ _ r.2.2.1, r.2.2.2⟩
theorem RelL.mono {F F' : Fz} (k : ∀ a o, F a = some o → F' a = some o) : ∀ {xs : List V} {vs : List Value}, RelL F xs vs → RelL F' xs vs
  | [], _, r => r
  | _ :: _, _, r => r.imp fun _ r => r.imp fun _ r => ⟨r.1, Rel.mono k r.2.1, RelL.mono k r.2.2⟩
end
section
variable {F : Fz}
theorem RelL.length : ∀ {xs : List V} {vs : List Value}, RelL F xs vs → vs.length = xs.length
  | [], _, rfl => rfl
  | _ :: _, _, ⟨_, _, e, _, r⟩ => e ▸ congrArg Nat.succ (RelL.length r)
theorem RelL.get : ∀ {xs : List V} {vs : List Value} {i : Nat} {x : V}, RelL F xs vs → xs[i]? = some x → ∃ v, vs[i]? = some v ∧ Rel F x v
  | [], _, _, _, _, e => nomatch e
  | _ :: _, _, 0, _, ⟨v, _, e, a, _⟩, q => ⟨v, e ▸ rfl, Option.some.inj q ▸ a⟩
  | _ :: _, _, i + 1, _, ⟨_, _, e, _, r⟩, q => e ▸ r.get (i := i) q
theorem RelL.append : ∀ {xs : List V} {vs : List Value} {ys : List V} {ws : List Value}, RelL F xs vs → RelL F ys ws → RelL F (xs ++ ys) (vs ++ ws)
  | [], _, _, _, rfl, r => r
  | _ :: _, _, _, _, ⟨v, us, e, a, b⟩, r => ⟨v, us ++ _, e ▸ rfl, a, b.append r⟩
theorem RelL.take : ∀ {xs : List V} {vs : List Value} (n : Nat), RelL F xs vs → RelL F (xs.take n) (vs.take n)
  | _, _, 0, _ => rfl
  | [], _, _ + 1, rfl => rfl
  | _ :: _, _, n + 1, ⟨v, us, e, a, b⟩ => ⟨v, us.take n, e ▸ rfl, a, b.take n⟩
theorem RelL.drop : ∀ {xs : List V} {vs : List Value} (n : Nat), RelL F xs vs → RelL F (xs.drop n) (vs.drop n)
  | _, _, 0, r => r
  | [], _, _ + 1, rfl => rfl
  | _ :: _, _, n + 1, ⟨_, _, e, _, b⟩ => e ▸ b.drop n
theorem RelL.one {x : V} {v : Value} (r : Rel F x v) : RelL F [x] [v] := ⟨v, [], rfl, r, rfl⟩
def RelO (F : Fz) (x : V) (ov : Option Value) : Prop := x ≠ .unb → ∃ v, ov = some v ∧ Rel F x v
theorem RelO.mono {F' : Fz} (k : ∀ a o, F a = some o → F' a = some o) {x : V} {ov : Option Value} (r : RelO F x ov) : RelO F' x ov := fun h => (r h).imp fun _ q => ⟨q.1, q.2.mono k⟩
end

/-! ## from one state to a later one -/
/-- an object stays; of a dict (a frame's names) the slots may change: a raise writes them -/
def KeepO (o o' : Obj) : Prop := o' = o ∨ ((∃ es n, o.data = .dict es n) ∧ ∃ sl, o' = { o with slots := sl })
theorem KeepO.trans {a b c : Obj} (x : KeepO a b) (y : KeepO b c) : KeepO a c := by
  rcases x with rfl | ⟨hd, sl, rfl⟩
  · exact y
  · rcases y with rfl | ⟨_, sl', rfl⟩
    · exact .inr ⟨hd, sl, rfl⟩
    · exact .inr ⟨hd, sl', rfl⟩
theorem KeepO.data {a b : Obj} (x : KeepO a b) : b.data = a.data := by
  rcases x with rfl | ⟨_, _, rfl⟩ <;> rfl
/-- a dict stays one -/
def DK (o o' : Obj) : Prop := ∀ es n, o.data = .dict es n → ∃ es n, o'.data = .dict es n
theorem DK.refl (o : Obj) : DK o o := fun es n e => ⟨es, n, e⟩
theorem DK.trans {a b c : Obj} (x : DK a b) (y : DK b c) : DK a c := fun es n e => (x es n e).elim fun es e => e.elim fun n e => y es n e
structure St (D : Addr → Prop) (F : Fz) (s : Shared) (F' : Fz) (s' : Shared) : Prop where
  up : ∀ a o, F a = some o → F' a = some o
  sub : ∀ a o, F' a = some o → s'.heap.get? a = some o
  keepO : ∀ b o, s.heap.get? b = some o → ¬ D b → ∃ o', s'.heap.get? b = some o' ∧ KeepO o o'
  live : ∀ b o, s.heap.get? b = some o → ∃ o', s'.heap.get? b = some o' ∧ DK o o'
  new : ∀ b o, F' b = some o → F b = some o ∨ s.heap.get? b = none
  rest : s' = { s with heap := s'.heap, toks := s'.toks }
abbrev N0 : Addr → Prop := fun _ => False
section
variable {D D' : Addr → Prop} {F F₁ F₂ : Fz} {s s₁ s₂ : Shared}
theorem St.keep (S : St D F s F₁ s₁) (b : Addr) (o : Obj) (e : s.heap.get? b = some o) (d : ¬ D b) (hd : ∀ es n, o.data ≠ .dict es n) : s₁.heap.get? b = some o :=
  (S.keepO b o e d).elim fun _ q => q.2.elim (fun h => h ▸ q.1) fun h => h.1.elim fun es h => h.elim fun n h => absurd h (hd es n)
theorem St.dead (S : St D F s F₁ s₁) {b : Addr} (h : s₁.heap.get? b = none) : s.heap.get? b = none := by
  cases q : s.heap.get? b with
  | none => rfl
  | some o => exact (S.live b o q).elim fun _ e => nomatch h.symm.trans e.1
theorem St.trans (x : St D F s F₁ s₁) (y : St D F₁ s₁ F₂ s₂) : St D F s F₂ s₂ :=
  ⟨fun a o e => y.up a o (x.up a o e), y.sub, fun b o e d => (x.keepO b o e d).elim fun o' q => (y.keepO b o' q.1 d).imp fun _ r => ⟨r.1, q.2.trans r.2⟩, fun b o e => (x.live b o e).elim fun o' e' => (y.live b o' e'.1).imp fun _ r => ⟨r.1, e'.2.trans r.2⟩,
    fun b o e => (y.new b o e).elim (x.new b o) fun q => .inr (x.dead q), by rw [y.rest, x.rest]⟩
theorem St.weaken (x : St D F s F₁ s₁) (h : ∀ b o, s.heap.get? b = some o → D b → D' b) : St D' F s F₁ s₁ :=
  ⟨x.up, x.sub, fun b o e d => x.keepO b o e fun q => d (h b o e q), x.live, x.new, x.rest⟩
theorem St.any (x : St N0 F s F₁ s₁) : St D F s F₁ s₁ := x.weaken fun _ _ _ => False.elim
theorem St.back (x : St D F s F₁ s₁) (h : ∀ b, D b → s.heap.get? b = none) : St N0 F s F₁ s₁ := x.weaken fun b _ e d => nomatch e.symm.trans (h b d)
theorem St.grow {h' : Heap} {t : Nat} (sub : ∀ a o, F a = some o → s.heap.get? a = some o) (k : ∀ b o, s.heap.get? b = some o → h'.get? b = some o) : St D F s F { s with heap := h', toks := t } :=
  ⟨fun _ _ e => e, fun a o e => k a o (sub a o e), fun b o e _ => ⟨o, k b o e, .inl rfl⟩, fun b o e => ⟨o, k b o e, .refl o⟩, fun _ _ e => .inl e, rfl⟩
theorem St.refl (sub : ∀ a o, F a = some o → s.heap.get? a = some o) : St D F s F s := St.grow (h' := s.heap) (t := s.toks) sub fun _ _ e => e
theorem size_none (h : Heap) : h.get? h.objs.size = none := by
  cases q : h.get? h.objs.size with
  | none => rfl
  | some o => exact absurd (Heap.lt_size q) (Nat.lt_irrefl _)
/-- a new object, frozen -/
theorem St.freeze (S : St D F s F₁ s₁) {a : Addr} {o : Obj} (ha : s.heap.get? a = none) (ho : s₁.heap.get? a = some o) (hn : F₁ a = none) : St D F s (F₁.add a o) s₁ := by
  refine ⟨fun b p e => ?_, fun b p e => ?_, S.keepO, S.live, fun b p e => ?_, S.rest⟩ <;> by_cases h : b = a
  · exact nomatch (h ▸ S.up b p e : F₁ a = some p).symm.trans hn
  · exact (if_neg h).trans (S.up b p e)
  · subst h; exact (Option.some.inj ((if_pos rfl).symm.trans e)) ▸ ho
  · exact S.sub b p ((if_neg h).symm.trans e)
  · exact .inr (h ▸ ha)
  · exact S.new b p ((if_neg h).symm.trans e)
theorem Fz.add_self {a : Addr} {o : Obj} : F.add a o a = some o := if_pos rfl
end
end Mine

set_option autoImplicit false
set_option linter.all false
set_option genSizeOf false
set_option genInjectivity false
set_option maxRecDepth 100000
namespace Mine
open PySem PyProof.Rows

/-! ## the context -/
def blts : List (Str × Value) := [("len", .builtin "len"), ("isinstance", .builtin "isinstance"), ("range", .type "range"), ("min", .builtin "min"), ("int", .type "int"), ("tuple", .type "tuple"), ("list", .type "list"), ("sorted", .builtin "sorted"), ("ord", .builtin "ord"), ("all", .builtin "all"), ("str", .type "str"), ("bool", .type "bool"), ("set", .type "set")]
structure Gl where
  prog : Program
  w : World
  B : Heap
  mg : Str → Option Value
  mb : Str → Option Value
  d : Nat
abbrev Gl.M (G : Gl) : Model := model G.prog G.w
abbrev Gl.dn (G : Gl) : Gl := ⟨G.prog, G.w, G.B, G.mg, G.mb, G.d - 1⟩
structure Gl.Ok (G : Gl) : Prop where
  g : G.B.Ns mainGlobals G.mg
  b : G.B.Ns builtinsNs G.mb
  nolimit : G.B.NoLimit
  blt : ∀ (i : Nat) (x : Str) (v : Value), blts[i]? = some (x, v) → G.mg x = none ∧ G.mb x = some v
/-- the frames that are open: each has a dict of its own, not frozen -/
def FrOk (F : Fz) (h : Heap) (l : List Env) : Prop := ∀ env ∈ l, env.scope.kind ≠ .module ∧ ∃ L, env.frame = some L ∧ F L = none ∧ ∃ o es n, h.get? L = some o ∧ o.data = .dict es n
def NoFr (A : Around) (q : Addr) : Prop := ∀ l, A.frames = some l → ∀ env ∈ l, env.frame ≠ some q
structure Rm (G : Gl) (A : Around) (F : Fz) (s : Shared) : Prop where
  go : G.Ok
  base : ∀ a o, G.B.get? a = some o → F a = some o
  sub : ∀ a o, F a = some o → s.heap.get? a = some o
  depth : A.depth + G.d ≤ recursionLimit
  units : A.units + 10 * G.d + 100 ≤ cLine
  handled : A.handled = none
  frames : ∃ l, A.frames = some l ∧ FrOk F s.heap l
structure Sx where
  sc : Scope
  ns : List Str
def nameOK (K : Sx) (i : Nat) (x : Str) : Bool :=
  K.ns[i]? == some x && (K.sc.names.lookup x == some .local || K.sc.names.lookup x == some .cell) && !(x == ("__debug__" : Str))
def globOK (K : Sx) (x : Str) : Bool := K.sc.names.lookup x == some .globalImplicit && !(x == ("__debug__" : Str))
structure LOk (K : Sx) (env : Env) (ρ : List V) (F : Fz) (h : Heap) : Prop where
  len : ρ.length = K.ns.length
  out : F env.locals = none
  vars : ∃ m, h.Ns env.locals m ∧ ∀ (i : Nat) (x : Str) (v : V), K.ns[i]? = some x → ρ[i]? = some v →
    (K.sc.names.lookup x = some .local → RelO F v (m x)) ∧
    (K.sc.names.lookup x = some .cell → ∃ c ov, env.cells.lookup x = some c ∧ h.IsCell c ov ∧ RelO F v ov ∧ F c = none)
structure EOk (G : Gl) (K : Sx) (A : Around) (env : Env) (ρ : List V) (σ : Ow) (F : Fz) (s : Shared) : Prop where
  rm : Rm G A F s
  sc : env.scope = K.sc
  kind : env.scope.kind = .function
  globals : env.globals = mainGlobals
  builtins : env.builtins = builtinsNs
  own : ∀ a xs, σ a = some xs → F a = none ∧ ∃ vs n, s.heap.get? a = some (lobj vs n) ∧ RelL F xs vs
  loc : LOk K env ρ F s.heap
section
variable {G : Gl} {K : Sx} {A : Around} {env : Env} {ρ : List V} {σ : Ow} {F F' : Fz} {s s' : Shared} {D : Addr → Prop}
theorem St.out (S : St D F s F' s') {a : Addr} {o : Obj} (h : F a = none) (ho : s.heap.get? a = some o) : F' a = none := by
  cases q : F' a with
  | none => rfl
  | some p => exact (S.new a p q).elim (fun e => nomatch h.symm.trans e) fun e => nomatch ho.symm.trans e
theorem FrOk.step {l : List Env} (h : FrOk F s.heap l) (S : St D F s F' s') : FrOk F' s'.heap l := fun env m => (h env m).imp id fun q => q.imp fun _ q => ⟨q.1, q.2.2.elim fun _ r => r.elim fun _ r => r.elim fun _ r => S.out q.2.1 r.1,
  q.2.2.elim fun o r => r.elim fun es r => r.elim fun n r => (S.live _ o r.1).imp fun _ t => (t.2 es n r.2).imp fun _ u => u.imp fun _ u => ⟨t.1, u⟩⟩
theorem Rm.step (R : Rm G A F s) (S : St D F s F' s') : Rm G A F' s' := ⟨R.go, fun a o e => S.up a o (R.base a o e), S.sub, R.depth, R.units, R.handled, R.frames.imp fun _ q => ⟨q.1, q.2.step S⟩⟩
theorem Rm.nofr (R : Rm G A F s) {q : Addr} (h : ∀ o es n, s.heap.get? q = some o → o.data ≠ .dict es n) : NoFr A q := fun l e env m hq => R.frames.elim fun l' r => by
  cases e.symm.trans r.1
  obtain ⟨_, L, hL, _, o, es, n, ho, hd⟩ := r.2 env m
  cases hq.symm.trans hL
  exact h o es n ho hd
theorem Rm.frs (R : Rm G A F s) {F' : Fz} {h' : Heap} (k : ∀ L, ¬ NoFr A L → F L = none → (∃ o es n, s.heap.get? L = some o ∧ o.data = .dict es n) → F' L = none ∧ ∃ o es n, h'.get? L = some o ∧ o.data = .dict es n) : ∃ l, A.frames = some l ∧ FrOk F' h' l :=
  R.frames.imp fun l r => ⟨r.1, fun env m => (r.2 env m).imp id fun t => t.imp fun L t => ⟨t.1, k L (fun hn => hn l r.1 env m t.1) t.2.1 t.2.2⟩⟩
theorem ns_keepO {h h' : Heap} {a : Addr} {m : Str → Option Value} (hn : h.Ns a m) (k : ∀ o, h.get? a = some o → ∃ o', h'.get? a = some o' ∧ KeepO o o') : h'.Ns a m :=
  hn.elim fun o r => r.elim fun es r => r.elim fun ep r => (k o r.1).elim fun o' q => ⟨o', es, ep, q.1, q.2.data.trans r.2.1, r.2.2⟩
theorem ns_keep {h h' : Heap} {a : Addr} {m : Str → Option Value} (hn : h.Ns a m) (k : ∀ o, h.get? a = some o → h'.get? a = some o) : h'.Ns a m := hn.imp fun _ r => r.imp fun _ r => r.imp fun _ r => ⟨k _ r.1, r.2⟩
theorem Ns_obj {h : Heap} {a : Addr} {m : Str → Option Value} (hn : h.Ns a m) : ∃ o, h.get? a = some o := hn.imp fun _ r => r.elim fun _ r => r.elim fun _ r => r.1
theorem LOk.step (L : LOk K env ρ F s.heap) (S : St N0 F s F' s') : LOk K env ρ F' s'.heap :=
  ⟨L.len, L.vars.elim fun _ q => (Ns_obj q.1).elim fun _ e => S.out L.out e, L.vars.imp fun _ q => ⟨ns_keepO q.1 fun o e => S.keepO _ o e id, fun i x v hx hv => ⟨fun k => ((q.2 i x v hx hv).1 k).mono S.up, fun k =>
    ((q.2 i x v hx hv).2 k).imp fun _ r => r.imp fun _ r => ⟨r.1, r.2.1.imp fun _ t => ⟨S.keep _ _ t.1 id (fun _ _ e => nomatch t.2.symm.trans e), t.2⟩, r.2.2.1.mono S.up, r.2.1.elim fun _ t => S.out r.2.2.2 t.1⟩⟩⟩⟩
theorem EOk.step (E : EOk G K A env ρ σ F s) (S : St N0 F s F' s') : EOk G K A env ρ σ F' s' :=
  ⟨E.rm.step S, E.sc, E.kind, E.globals, E.builtins, fun a xs q => (E.own a xs q).elim fun hF r => r.elim fun vs r => r.elim fun n r => ⟨S.out hF r.1, vs, n, S.keep _ _ r.1 id (fun _ _ e => nomatch e), r.2.mono S.up⟩, E.loc.step S⟩
end
/-! ## what a tree is to give -/
inductive PV (F : Fz) (s : Shared) (x : V) (v : Value) (s' : Shared) : Prop
  | mk (F' : Fz) (S : St N0 F s F' s') (r : Rel F' x v)
inductive PL (F : Fz) (s : Shared) (x : List V) (v : List Value) (s' : Shared) : Prop
  | mk (F' : Fz) (S : St N0 F s F' s') (r : RelL F' x v)
inductive PB (F : Fz) (s : Shared) (x : Bool) (v : Bool) (s' : Shared) : Prop
  | mk (F' : Fz) (S : St N0 F s F' s') (r : v = x)
def Ev (G : Gl) (K : Sx) (ρ : List V) (σ : Ow) (e : PySem.Expr) (x : V) : Prop :=
  ∀ A env F s E, EOk G K A env ρ σ F s → wpAny G.M A (eval e env) (PV F s x) E s
def Tr (G : Gl) (K : Sx) (ρ : List V) (σ : Ow) (e : PySem.Expr) (b : Bool) : Prop :=
  ∀ A env F s E, EOk G K A env ρ σ F s → wpAny G.M A (isTrue e env (eval e env)) (PB F s b) E s
section
variable {G : Gl} {K : Sx} {A : Around} {env : Env} {ρ : List V} {σ : Ow} {F F₁ : Fz} {s s₁ : Shared} {E : Value → Shared → Prop} {e l r : PySem.Expr} {x y z : V} {p q : Pos}
theorem PV.from (S : St N0 F s F₁ s₁) {v : Value} {s' : Shared} (h : PV F₁ s₁ x v s') : PV F s x v s' := h.casesOn fun F' S' r => ⟨F', S.trans S', r⟩
theorem wp_from (S : St N0 F s F₁ s₁) {M : Model} {t : Sem Value} (h : wpAny M A t (PV F₁ s₁ x) E s₁) : wpAny M A t (PV F s x) E s₁ := wpAny_mono h (fun _ _ q => q.from S) fun _ _ e => e
theorem Ev.bind {R : Value → Shared → Prop} (h : Ev G K ρ σ e x) (k₀ : EOk G K A env ρ σ F s) (k : ∀ v F' s', St N0 F s F' s' → Rel F' x v → EOk G K A env ρ σ F' s' → R v s') : wpAny G.M A (eval e env) R E s :=
  wpAny_mono (h A env F s E k₀) (fun v s' q => q.casesOn fun F' S r => k v F' s' S r (k₀.step S)) fun _ _ e => e
theorem Tr.bind {b : Bool} {R : Bool → Shared → Prop} (h : Tr G K ρ σ e b) (k₀ : EOk G K A env ρ σ F s) (k : ∀ F' s', St N0 F s F' s' → EOk G K A env ρ σ F' s' → R b s') : wpAny G.M A (isTrue e env (eval e env)) R E s :=
  wpAny_mono (h A env F s E k₀) (fun v s' q => q.casesOn fun F' S r => r ▸ k F' s' S (k₀.step S)) fun _ _ e => e
theorem pv_same {v : Value} (k : EOk G K A env ρ σ F s) (r : Rel F x v) : PV F s x v s := ⟨F, .refl k.rm.sub, r⟩
theorem pv_tok {v : Value} (R : Rm G A F s) (t : Nat) (r : Rel F x v) : PV F s x v { s with toks := t } := ⟨F, .grow R.sub fun _ _ e => e, r⟩
theorem pv_push {v : Value} (R : Rm G A F s) (o : Obj) (t : Nat) (r : Rel (F.add s.heap.objs.size o) x v) (hf : Obj.isFreed o = false) : PV F s x v { s with heap := s.heap.push o, toks := t } :=
  ⟨_, (St.grow (t := t) R.sub fun _ _ e => Heap.get?_push_of_some _ e).freeze (size_none _) (Heap.get?_push_size _ hf) (by
    cases q : F s.heap.objs.size with
    | none => rfl
    | some o => exact nomatch (size_none s.heap).symm.trans (R.sub _ _ q)), r⟩

/-! ## constants and names -/
theorem ev_none {k : Nat} : Ev G K ρ σ (.Constant .none k p) .none := fun _ _ _ _ _ k => by rw [eval_Constant]; exact wpAny_pure (pv_same k rfl)
theorem ev_bool {b : Bool} {k : Nat} : Ev G K ρ σ (.Constant (.bool b) k p) (.bool b) := fun _ _ _ _ _ k => by rw [eval_Constant]; exact wpAny_pure (pv_same k rfl)
theorem ev_int {i : Int} {k : Nat} : Ev G K ρ σ (.Constant (.int i) k p) (.int i) := fun _ _ _ _ _ k => wpAny_Constant_int (pv_tok k.rm _ ⟨_, rfl⟩)
theorem ev_str {a : Str} {k : Nat} : Ev G K ρ σ (.Constant (.str a) k p) (.str a.cps.toList) := fun _ _ _ _ _ k => Calls.Constant_str (pv_tok k.rm _ ⟨_, rfl⟩)
theorem ev_lit (l : List Nat) {a : Str} {k : Nat} (h : a.cps.toList = l := by decide +kernel) : Ev G K ρ σ (.Constant (.str a) k p) (.str l) := h ▸ ev_str
def V.ok : V → Bool
  | .unb => false
  | _ => true
theorem V.ok_ne (h : x.ok = true) : x ≠ .unb := fun e => by subst e; cases h
theorem nameOK_inv {i : Nat} {n : Str} (h : nameOK K i n = true) : K.ns[i]? = some n ∧ (K.sc.names.lookup n = some .local ∨ K.sc.names.lookup n = some .cell) ∧ (n == ("__debug__" : Str)) = false := by
  have h1 := Bool.and_eq_true_iff.mp h
  have h2 := Bool.and_eq_true_iff.mp h1.1
  exact ⟨eq_of_beq h2.1, (Bool.or_eq_true_iff.mp h2.2).imp eq_of_beq eq_of_beq, (Bool.not_eq_true' _).mp h1.2⟩
theorem globOK_inv {n : Str} (h : globOK K n = true) : K.sc.names.lookup n = some .globalImplicit ∧ (n == ("__debug__" : Str)) = false := by
  have h1 := Bool.and_eq_true_iff.mp h
  exact ⟨eq_of_beq h1.1, (Bool.not_eq_true' _).mp h1.2⟩
theorem kindOf_eq (k : EOk G K A env ρ σ F s) (n : Str) : env.kindOf n = K.sc.names.lookup n := by rw [← k.sc]; rfl
theorem name_var {i : Nat} {n : Str} {Q : Value → Shared → Prop} (k : EOk G K A env ρ σ F s) (hv : ρ[i]? = some x) (hu : x.ok = true) (h : nameOK K i n = true) (h2 : ∀ v, Rel F x v → Q v s) : wpAny G.M A (eval (.Name n p) env) Q E s := by
  have q := nameOK_inv h
  refine k.loc.vars.elim fun m r => ?_
  have r2 := r.2 i n x q.1 hv
  refine q.2.1.elim (fun hk => ?_) fun hk => ?_
  · exact (r2.1 hk (V.ok_ne hu)).elim fun v t => wpAny_Name (wpAny_loadName_local k.kind ((kindOf_eq k n).trans hk) r.1 t.1 (h2 _ t.2)) q.2.2
  · refine (r2.2 hk).elim fun c t => t.elim fun ov t => (t.2.2.1 (V.ok_ne hu)).elim fun v u => ?_
    exact wpAny_Name (wpAny_loadName_cell k.kind ((kindOf_eq k n).trans hk) t.1 (u.1 ▸ t.2.1) (h2 _ u.2)) q.2.2
theorem ev_var (i : Nat) {n : Str} (hv : ρ[i]? = some x) (hu : x.ok = true := by rfl) (h : nameOK K i n = true := by decide +kernel) : Ev G K ρ σ (.Name n p) x := fun A env F s E k => name_var k hv hu h fun _ r => pv_same k r
theorem Heap.Ns.up {h h' : Heap} {a : Addr} {m : Str → Option Value} (hn : h.Ns a m) (k : ∀ b o, h.get? b = some o → h'.get? b = some o) : h'.Ns a m := ns_keep hn fun _ e => k _ _ e
theorem Rm.in (R : Rm G A F s) : ∀ b o, G.B.get? b = some o → s.heap.get? b = some o := fun b o e => R.sub b o (R.base b o e)
theorem name_global {n : Str} {v : Value} {Q : Value → Shared → Prop} (k : EOk G K A env ρ σ F s) (hv : G.mg n = some v ∨ (G.mg n = none ∧ G.mb n = some v)) (h : globOK K n = true) (h2 : Q v s) : wpAny G.M A (eval (.Name n p) env) Q E s := by
  have hg := globOK_inv h
  refine Calls.Name_function_global k.kind ((kindOf_eq k n).trans hg.1) ?_ hg.2
  have hG : s.heap.Ns env.globals G.mg := by rw [k.globals]; exact k.rm.go.g.keeps k.rm.in
  exact hv.elim (fun hv => Calls.loadGlobal_global hG hv h2) fun hv => Calls.loadGlobal_builtin hG hv.1 (by rw [k.builtins]; exact k.rm.go.b.keeps k.rm.in) hv.2 h2
theorem ev_blt (i : Nat) {n : Str} {v : Value} (hb : blts[i]? = some (n, v)) (h : globOK K n = true) : Ev G K ρ σ (.Name n p) (.prim v) := fun _ _ _ _ _ k => name_global k (.inr (k.rm.go.blt i n v hb)) h (pv_same k rfl)

/-! ## operators -/
theorem ev_bin {op : Operator} (h1 : Ev G K ρ σ l x) (h2 : Ev G K ρ σ r y) (h : ∀ A F s E v w, Rm G A F s → Rel F x v → Rel F y w → wpAny G.M A (binaryOp op v w) (PV F s z) E s) : Ev G K ρ σ (.BinOp l op r p) z :=
  fun A env F s E k => wpAny_BinOp (h1.bind k fun v F₁ s₁ S₁ r₁ k₁ => h2.bind k₁ fun w F₂ s₂ S₂ r₂ k₂ => wp_from (S₁.trans S₂) (h A F₂ s₂ E v w k₂.rm (r₁.mono S₂.up) r₂))
variable {i j : Int} {a b : List Nat} {xs ys : List V}
theorem ev_add (h1 : Ev G K ρ σ l (.int i)) (h2 : Ev G K ρ σ r (.int j)) : Ev G K ρ σ (.BinOp l .Add r p) (.int (i + j)) :=
  ev_bin h1 h2 <| by rintro A F s E _ _ R ⟨_, rfl⟩ ⟨_, rfl⟩; exact P.add_int (pv_tok R _ ⟨_, rfl⟩)
theorem ev_sub (h1 : Ev G K ρ σ l (.int i)) (h2 : Ev G K ρ σ r (.int j)) : Ev G K ρ σ (.BinOp l .Sub r p) (.int (i - j)) :=
  ev_bin h1 h2 <| by rintro A F s E _ _ R ⟨_, rfl⟩ ⟨_, rfl⟩; exact P.sub_int (pv_tok R _ ⟨_, rfl⟩)
theorem ev_mul (h1 : Ev G K ρ σ l (.int i)) (h2 : Ev G K ρ σ r (.int j)) (h : IntMulOk i j) : Ev G K ρ σ (.BinOp l .Mult r p) (.int (i * j)) :=
  ev_bin h1 h2 <| by rintro A F s E _ _ R ⟨_, rfl⟩ ⟨_, rfl⟩; exact P.mul_int (pv_tok R _ ⟨_, rfl⟩) h
theorem ev_mod (h1 : Ev G K ρ σ l (.int i)) (h2 : Ev G K ρ σ r (.int j)) (h : 0 < j) : Ev G K ρ σ (.BinOp l .Mod r p) (.int (i % j)) :=
  ev_bin h1 h2 <| by rintro A F s E _ _ R ⟨_, rfl⟩ ⟨_, rfl⟩; exact mod_int' (Int.ne_of_gt h) (Int.fmod_eq_emod_of_nonneg i (Int.le_of_lt h) ▸ pv_tok R _ ⟨_, rfl⟩)
theorem ev_fdiv (h1 : Ev G K ρ σ l (.int i)) (h2 : Ev G K ρ σ r (.int j)) (h : 0 < j) (h' : j < 1073741824) : Ev G K ρ σ (.BinOp l .FloorDiv r p) (.int (i / j)) :=
  ev_bin h1 h2 <| by
    rintro A F s E _ _ R ⟨_, rfl⟩ ⟨_, rfl⟩; exact floordiv_int (Int.ne_of_gt h) (Int.fdiv_eq_ediv_of_nonneg i (Int.le_of_lt h) ▸ pv_tok R _ ⟨_, rfl⟩) (.inl (PyProof.noPylong_small (by (exact a378 h h'))))
theorem length_str (a : List Nat) : (⟨a.toArray⟩ : Str).length = a.length := rfl
theorem append_str (a b : List Nat) : (⟨a.toArray⟩ : Str) ++ (⟨b.toArray⟩ : Str) = ⟨(a ++ b).toArray⟩ := by
  show Str.append _ _ = _
  simp [Str.append]
theorem made_str (R : Rm G A F s) (hl : a.length ≤ sizeLine) : (Made.str ⟨a.toArray⟩).post (PV F s (.str a)) s := ⟨hl, pv_tok R _ ⟨_, rfl⟩⟩
theorem ev_adds (h1 : Ev G K ρ σ l (.str a)) (h2 : Ev G K ρ σ r (.str b)) (h : a.length + b.length ≤ sizeLine) : Ev G K ρ σ (.BinOp l .Add r p) (.str (a ++ b)) :=
  ev_bin h1 h2 <| by
    rintro A F s E _ _ R ⟨_, rfl⟩ ⟨_, rfl⟩
    refine P.add_str ?_
    rw [append_str]
    split
    · rename_i hz
      have : a = [] := List.eq_nil_of_length_eq_zero (eq_of_beq hz)
      subst this; exact pv_tok R s.toks ⟨_, rfl⟩
    · split
      · rename_i hz
        have : b = [] := List.eq_nil_of_length_eq_zero (eq_of_beq hz)
        subst this; rw [List.append_nil]; exact pv_tok R s.toks ⟨_, rfl⟩
      · exact made_str R (by rw [List.length_append]; exact h)
theorem ev_addl (h1 : Ev G K ρ σ l (.lst xs)) (h2 : Ev G K ρ σ r (.lst ys)) (h : xs.length + ys.length ≤ sizeLine) : Ev G K ρ σ (.BinOp l .Add r p) (.lst (xs ++ ys)) :=
  ev_bin h1 h2 <| by
    rintro A F s E _ _ R ⟨_, us, rfl, ⟨n, h1⟩, r1⟩ ⟨_, ws, rfl, ⟨n', h2⟩, r2⟩
    have hp := pv_push (x := .lst (xs ++ ys)) (v := .ref s.heap.objs.size) R (lobj (us ++ ws) 0) s.toks ⟨_, us ++ ws, rfl, ⟨0, Fz.add_self⟩, (RelL.append r1 r2).mono fun a o e => (if_neg (by rintro rfl; exact nomatch (size_none s.heap).symm.trans (R.sub _ _ e))).trans e⟩ rfl
    have he : us.toArray ++ ws.toArray = (us ++ ws).toArray := by simp
    exact P.add_list (R.sub _ _ h1) (R.sub _ _ h2) (by rw [he]; exact hp) (by rw [List.size_toArray, List.size_toArray, r1.length, r2.length]; exact h)
theorem ev_neg (h1 : Ev G K ρ σ l (.int i)) : Ev G K ρ σ (.UnaryOp .USub l p) (.int (-i)) :=
  fun A env F s E k => wpAny_UnaryOp (h1.bind k (by rintro v F₁ s₁ S₁ ⟨_, rfl⟩ k₁; exact P.neg_int (PV.from S₁ (pv_tok (x := .int (-i)) k₁.rm _ ⟨_, rfl⟩))))
end
end Mine

set_option autoImplicit false
set_option linter.all false
set_option genSizeOf false
set_option genInjectivity false
set_option maxRecDepth 100000
namespace Mine
open PySem PyProof.Rows

/-! ## comparisons -/
def Cm (G : Gl) (op : CmpOp) (x y : V) (b : Bool) : Prop := ∀ A F s E v w R, Rm G A F s → Rel F x v → Rel F y w → R (.bool b) s → wpAny G.M A (compareOp op v w) R E s
section
variable {G : Gl} {K : Sx} {ρ : List V} {σ : Ow} {e l r : PySem.Expr} {es : List PySem.Expr} {x y z : V} {p q : Pos} {b c : Bool} {op : CmpOp} {i j : Int} {a a' : List Nat} {xs ys : List V}
theorem ev_cmp (h1 : Ev G K ρ σ l x) (h2 : Ev G K ρ σ r y) (h : Cm G op x y b) (hm : behindInMarks op r = false := by rfl) : Ev G K ρ σ (.Compare l [op] [r] p) (.bool b) :=
  fun A env F s E k => wpAny_Compare1 (h1.bind k fun v F₁ s₁ S₁ r₁ k₁ => h2.bind k₁ fun w F₂ s₂ S₂ r₂ k₂ => h A F₂ s₂ E v w _ k₂.rm (r₁.mono S₂.up) r₂ ⟨F₂, S₁.trans S₂, rfl⟩) hm
theorem tr_cmp (h1 : Ev G K ρ σ l x) (h2 : Ev G K ρ σ r y) (h : Cm G op x y b) (hm : behindInMarks op r = false := by rfl) : Tr G K ρ σ (.Compare l [op] [r] p) b :=
  fun A env F s E k => wpAny_isTrue_Compare1 (h1.bind k fun v F₁ s₁ S₁ r₁ k₁ => h2.bind k₁ fun w F₂ s₂ S₂ r₂ k₂ => h A F₂ s₂ E v w _ k₂.rm (r₁.mono S₂.up) r₂ (wpAny_truthy_bool ⟨F₂, S₁.trans S₂, rfl⟩)) hm
theorem cm_lt : Cm G .Lt (.int i) (.int j) (decide (i < j)) := by rintro A F s E _ _ R _ ⟨_, rfl⟩ ⟨_, rfl⟩ h; exact P.lt_int h
theorem cm_le : Cm G .LtE (.int i) (.int j) (decide (i ≤ j)) := by rintro A F s E _ _ R _ ⟨_, rfl⟩ ⟨_, rfl⟩ h; exact P.le_int h
theorem cm_gt : Cm G .Gt (.int i) (.int j) (decide (j < i)) := by rintro A F s E _ _ R _ ⟨_, rfl⟩ ⟨_, rfl⟩ h; exact P.gt_int h
theorem cm_ge : Cm G .GtE (.int i) (.int j) (decide (j ≤ i)) := by rintro A F s E _ _ R _ ⟨_, rfl⟩ ⟨_, rfl⟩ h; exact P.ge_int h
theorem cm_eqi : Cm G .Eq (.int i) (.int j) (i == j) := by rintro A F s E _ _ R _ ⟨_, rfl⟩ ⟨_, rfl⟩ h; exact P.eq_int h
theorem cm_nei : Cm G .NotEq (.int i) (.int j) (!(i == j)) := by rintro A F s E _ _ R _ ⟨_, rfl⟩ ⟨_, rfl⟩ h; exact P.ne_int h
theorem cm_eqs : Cm G .Eq (.str a) (.str a') (a == a') := by rintro A F s E _ _ R _ ⟨_, rfl⟩ ⟨_, rfl⟩ h; exact P.eq_str h
theorem cm_nes : Cm G .NotEq (.str a) (.str a') (!(a == a')) := by rintro A F s E _ _ R _ ⟨_, rfl⟩ ⟨_, rfl⟩ h; exact P.ne_str h
def V.nn : V → Bool
  | .bool _ | .int _ | .str _ | .tup _ | .lst _ | .ref _ => true
  | _ => false
theorem nn_val {F : Fz} {v : Value} (h : x.nn = true) (r : Rel F x v) : v ≠ .none ∧ plainIs v .none = true := by
  cases x <;> first | (cases h; done) | skip
  · cases show v = .bool _ from r; exact ⟨nofun, rfl⟩
  · obtain ⟨_, rfl⟩ := r; exact ⟨nofun, rfl⟩
  · obtain ⟨_, rfl⟩ := r; exact ⟨nofun, rfl⟩
  · obtain ⟨_, _, rfl, _⟩ := r; exact ⟨nofun, rfl⟩
  · obtain ⟨_, _, rfl, _⟩ := r; exact ⟨nofun, rfl⟩
  · cases show v = .ref _ from r; exact ⟨nofun, rfl⟩
theorem cm_is_none : Cm G .Is .none .none true := by rintro A F s E _ _ R _ rfl rfl h; exact wpAny_is_self rfl h
theorem cm_is_nn (h : x.nn = true) : Cm G .Is x .none false := by rintro A F s E _ _ R _ r rfl h'; exact wpAny_is_other (nn_val h r).2 (nn_val h r).1 h'
theorem cm_isnot (h : Cm G .Is x y b) : Cm G .IsNot x y (!b) := fun A F s E v w R k rv rw' hR => by
  have h' : wpAny G.M A (isSame v w >>= fun b => pure (Value.bool b)) (fun v s' => v = .bool b ∧ s' = s) E s := h A F s E v w _ k rv rw' ⟨rfl, rfl⟩
  show wpAny _ A (isSame v w >>= fun b => pure (.bool (!b))) R E s
  intro Γ p hΓ
  have := h' Γ p hΓ
  rw [Sem.wp_bind'] at this ⊢
  refine Sem.wp_mono _ Γ _ (fun b' p' s' hb => ?_) (fun _ _ _ x => x) _ _ this
  obtain ⟨e, rfl⟩ := hb
  cases e; exact hR
theorem cm_is_bool : Cm G .Is (.bool b) (.bool c) (b == c) := by
  rintro A F s E _ _ R _ rfl rfl h
  exact wpAny_is_plain rfl (by cases b <;> cases c <;> exact h)
theorem lst_list {F : Fz} {s : Shared} {A : Around} {v : Value} (R : Rm G A F s) (r : Rel F (.lst xs) v) : ∃ a vs, v = .ref a ∧ s.heap.IsList a (List.toArray vs) ∧ vs.length = xs.length ∧ RelL F xs vs :=
  r.imp fun _ r => r.imp fun _ r => ⟨r.1, r.2.1.elim fun n e => ⟨_, R.sub _ _ e, rfl, n, rfl⟩, r.2.2.length, r.2.2⟩
theorem Rm.room {A : Around} {F : Fz} {s : Shared} (R : Rm G A F s) : A.units < cLine := by have := R.units; (exact a360 this)
open PySem.SeqAt in
theorem cm_eq_nil : Cm G .Eq (.lst xs) (.lst []) xs.isEmpty := fun A F s E v w R k rv rw' h => by
  obtain ⟨a, vs, rfl, hl, hn, _⟩ := lst_list k rv
  obtain ⟨a', ws, rfl, hl', hn', _⟩ := lst_list k rw'
  cases List.eq_nil_of_length_eq_zero hn'
  cases xs with
  | nil => cases List.eq_nil_of_length_eq_zero hn; exact RcAt.lists (e := fun _ => true) hl hl' rfl k.room (fun j h1 _ => absurd h1 (Nat.not_lt_zero _)) _ _ _ _ h
  | cons x xs => exact RcAt.lists_lengths hl hl' (by rw [List.size_toArray, hn]; rfl) k.room _ _ _ _ h
open PySem.SeqAt in
theorem cm_ne_nil : Cm G .NotEq (.lst xs) (.lst []) (!xs.isEmpty) := fun A F s E v w R k rv rw' h => by
  obtain ⟨a, vs, rfl, hl, hn, _⟩ := lst_list k rv
  obtain ⟨a', ws, rfl, hl', hn', _⟩ := lst_list k rw'
  cases List.eq_nil_of_length_eq_zero hn'
  cases xs with
  | nil => cases List.eq_nil_of_length_eq_zero hn; exact RcNeAt.lists (e := fun _ => true) hl hl' rfl k.room (fun j h1 _ => absurd h1 (Nat.not_lt_zero _)) _ _ _ _ h
  | cons x xs => exact RcNeAt.lists_lengths hl hl' (by rw [List.size_toArray, hn]; rfl) k.room _ _ _ _ h

/-! ## tests -/
def plainTest : PySem.Expr → Bool
  | .UnaryOp .Not _ _ | .BoolOp .. | .IfExp .. | .Compare .. => false
  | _ => true
theorem isTrue_plain (h : plainTest e = true) (env : Env) (w : Sem Value) : isTrue e env w = (do let v ← w; standAt e.pos; holding [v] (truthy v)) := by
  cases e <;> first | rfl | cases h | skip
  rename_i op x p
  cases op <;> first | rfl | cases h
theorem tr_ev (h : Ev G K ρ σ e (.bool b)) (hp : plainTest e = true := by rfl) : Tr G K ρ σ e b := fun A env F s E k => by
  rw [isTrue_plain hp]
  exact wpAny_bind (h.bind k fun v F₁ s₁ S₁ r₁ k₁ => wpAny_bind (wpAny_standAt (wpAny_holding (r₁ ▸ wpAny_truthy_bool ⟨F₁, S₁, rfl⟩))))
theorem tr_not (h : Tr G K ρ σ e b) : Tr G K ρ σ (.UnaryOp .Not e p) (!b) := fun A env F s E k => by
  show wpAny _ A (do return !(← isTrue e env (eval e env))) _ _ s
  exact wpAny_bind (h.bind k fun F₁ s₁ S₁ k₁ => wpAny_pure ⟨F₁, S₁, rfl⟩)
theorem PB.from {F F₁ : Fz} {s s₁ s' : Shared} (S : St N0 F s F₁ s₁) (h : PB F₁ s₁ b c s') : PB F s b c s' := h.casesOn fun F' S' r => ⟨F', S.trans S', r⟩
def TrL (G : Gl) (K : Sx) (ρ : List V) (σ : Ow) (op : BoolOp) (es : List PySem.Expr) (b : Bool) : Prop :=
  ∀ A env F s E, EOk G K A env ρ σ F s → wpAny G.M A (allTrue op es env) (PB F s b) E s
theorem tr_bop {op : BoolOp} (h : TrL G K ρ σ op es b) : Tr G K ρ σ (.BoolOp op es p) b := h
theorem trl_one {op : BoolOp} (h : Tr G K ρ σ e b) : TrL G K ρ σ op [e] b := fun A env F s E k =>
  wpAny_bind (h.bind k fun F₁ s₁ S₁ _ => by cases op <;> cases b <;> exact wpAny_pure ⟨F₁, S₁, rfl⟩)
theorem trl_and (h : Tr G K ρ σ e b) (h2 : b = true → TrL G K ρ σ .And es c) : TrL G K ρ σ .And (e :: es) (b && c) := fun A env F s E k =>
  wpAny_bind (h.bind k fun F₁ s₁ S₁ k₁ => by
    cases b
    · exact wpAny_pure ⟨F₁, S₁, rfl⟩
    · exact wpAny_mono (h2 rfl A env F₁ s₁ E k₁) (fun _ _ q => q.from S₁) fun _ _ e => e)
theorem trl_or (h : Tr G K ρ σ e b) (h2 : b = false → TrL G K ρ σ .Or es c) : TrL G K ρ σ .Or (e :: es) (b || c) := fun A env F s E k =>
  wpAny_bind (h.bind k fun F₁ s₁ S₁ k₁ => by
    cases b
    · exact wpAny_mono (h2 rfl A env F₁ s₁ E k₁) (fun _ _ q => q.from S₁) fun _ _ e => e
    · exact wpAny_pure ⟨F₁, S₁, rfl⟩)
/-! ## and, or, not as values -/
theorem ev_not (h : Ev G K ρ σ e (.bool b)) : Ev G K ρ σ (.UnaryOp .Not e p) (.bool (!b)) := fun A env F s E k => by
  show wpAny _ A (do let v ← eval e env; standAt p; holding [v] (unaryOp .Not v)) _ _ s
  refine wpAny_bind (h.bind k fun v F₁ s₁ S₁ r₁ k₁ => wpAny_bind (wpAny_standAt (wpAny_holding ?_)))
  show wpAny _ A (holding [v] (do return Value.bool (!(← truthy v)))) _ _ s₁
  exact wpAny_holding (wpAny_bind (r₁ ▸ wpAny_truthy_bool (wpAny_pure ⟨F₁, S₁, rfl⟩)))
def EvB (G : Gl) (K : Sx) (ρ : List V) (σ : Ow) (op : BoolOp) (es : List PySem.Expr) (b : Bool) : Prop :=
  ∀ A env F s E p, EOk G K A env ρ σ F s → wpAny G.M A (boolOp p op (evalEach es env)) (PV F s (.bool b)) E s
theorem ev_bop {op : BoolOp} (h : EvB G K ρ σ op es b) : Ev G K ρ σ (.BoolOp op es p) (.bool b) := fun A env F s E k => h A env F s E p k
theorem evb_one {op : BoolOp} (h : Ev G K ρ σ e (.bool b)) : EvB G K ρ σ op [e] b := fun A env F s E _ k => h A env F s E k
theorem evb_and (h : Ev G K ρ σ e (.bool b)) (h2 : b = true → EvB G K ρ σ .And (r :: es) c) : EvB G K ρ σ .And (e :: r :: es) (b && c) := fun A env F s E p k => by
  show wpAny _ A (do
      let v ← eval e env
      standAt p
      let b ← holding [v] (truthy v)
      match BoolOp.And, b with
      | .And, false | .Or, true => pure v
      | _, _ => boolOp p .And (evalEach (r :: es) env)) _ _ s
  refine wpAny_bind (h.bind k fun v F₁ s₁ S₁ r₁ k₁ => wpAny_bind (wpAny_standAt (wpAny_bind (wpAny_holding ?_))))
  cases show v = .bool b from r₁
  refine wpAny_truthy_bool ?_
  cases b
  · exact wpAny_pure ⟨F₁, S₁, rfl⟩
  · exact wp_from S₁ (h2 rfl A env F₁ s₁ E p k₁)
theorem evb_or (h : Ev G K ρ σ e (.bool b)) (h2 : b = false → EvB G K ρ σ .Or (r :: es) c) : EvB G K ρ σ .Or (e :: r :: es) (b || c) := fun A env F s E p k => by
  show wpAny _ A (do
      let v ← eval e env
      standAt p
      let b ← holding [v] (truthy v)
      match BoolOp.Or, b with
      | .And, false | .Or, true => pure v
      | _, _ => boolOp p .Or (evalEach (r :: es) env)) _ _ s
  refine wpAny_bind (h.bind k fun v F₁ s₁ S₁ r₁ k₁ => wpAny_bind (wpAny_standAt (wpAny_bind (wpAny_holding ?_))))
  cases show v = .bool b from r₁
  refine wpAny_truthy_bool ?_
  cases b
  · exact wp_from S₁ (h2 rfl A env F₁ s₁ E p k₁)
  · exact wpAny_pure ⟨F₁, S₁, rfl⟩

/-! ## several values; displays -/
def EvL (G : Gl) (K : Sx) (ρ : List V) (σ : Ow) (es : List PySem.Expr) (xs : List V) : Prop :=
  ∀ A env F s E, EOk G K A env ρ σ F s → wpAny G.M A (spliced (es.map fun e => (false, eval e env))) (PL F s xs) E s
theorem evl_nil : EvL G K ρ σ [] [] := fun A env F s E k => Calls.spliced_nil ⟨F, .refl k.rm.sub, rfl⟩
theorem evl_cons (h : Ev G K ρ σ e x) (h2 : EvL G K ρ σ es xs) : EvL G K ρ σ (e :: es) (x :: xs) := fun A env F s E k =>
  Calls.spliced_cons (h.bind k fun v F₁ s₁ S₁ r₁ k₁ => wpAny_mono (h2 A env F₁ s₁ E k₁) (fun vs s₂ q => q.casesOn fun F₂ S₂ r₂ => ⟨F₂, S₁.trans S₂, v, vs, rfl, r₁.mono S₂.up, r₂⟩) fun _ _ e => e)
theorem EvL.bind {A : Around} {env : Env} {F : Fz} {s : Shared} {E : Value → Shared → Prop} {R : List Value → Shared → Prop} (h : EvL G K ρ σ es xs) (k₀ : EOk G K A env ρ σ F s) (k : ∀ v F' s', St N0 F s F' s' → RelL F' xs v → EOk G K A env ρ σ F' s' → R v s') :
    wpAny G.M A (spliced (es.map fun e => (false, eval e env))) R E s :=
  wpAny_mono (h A env F s E k₀) (fun v s' q => q.casesOn fun F' S r => k v F' s' S r (k₀.step S)) fun _ _ e => e
def notStar : PySem.Expr → Bool
  | .Starred .. => false
  | _ => true
theorem starEach_cons (h : notStar e = true) (es : List PySem.Expr) (env : Env) : starEach (e :: es) env = (false, eval e env) :: starEach es env := by
  cases e <;> first | rfl | cases h
theorem back_star (pos : Pos) (env : Env) : ∀ {es : List PySem.Expr}, es.all notStar = true → backTo pos (starEach es env) = es.map fun e => (false, eval e env)
  | [], _ => rfl
  | e :: es, h => by
    have h := Bool.and_eq_true_iff.mp h
    rw [starEach_cons h.1]
    show (false, _) :: backTo pos (starEach es env) = _
    rw [back_star pos env h.2]; rfl
theorem add_up {F : Fz} {s : Shared} {A : Around} (R : Rm G A F s) {ob : Obj} : ∀ a o, F a = some o → F.add s.heap.objs.size ob a = some o := fun a o e =>
  (if_neg (by rintro rfl; exact nomatch (size_none s.heap).symm.trans (R.sub _ _ e))).trans e
theorem newList_ok {A : Around} {F : Fz} {s : Shared} {E : Value → Shared → Prop} {vs : List Value} (R : Rm G A F s) (r : RelL F xs vs) (hl : xs.length ≤ sizeLine) : wpAny G.M A (newList vs) (PV F s (.lst xs)) E s :=
  wpAny_newObj_type (pv_push R (lobj vs 0) s.toks ⟨_, vs, rfl, ⟨0, Fz.add_self⟩, r.mono (add_up R)⟩ rfl) (by show vs.toArray.size ≤ _; rw [List.size_toArray, r.length]; exact hl)
theorem newTuple_ok {A : Around} {F : Fz} {s : Shared} {E : Value → Shared → Prop} {vs : List Value} (R : Rm G A F s) (r : RelL F xs vs) (hl : xs.length ≤ sizeLine) : wpAny G.M A (newTuple vs) (PV F s (.tup xs)) E s :=
  wpAny_newObj_type (pv_push R (tobj vs 0) s.toks ⟨_, vs, rfl, ⟨0, Fz.add_self⟩, r.mono (add_up R)⟩ rfl) (by show vs.toArray.size ≤ _; rw [List.size_toArray, r.length]; exact hl)
theorem ev_list (h : EvL G K ρ σ es xs) (hl : xs.length ≤ sizeLine) (hs : es.all notStar = true := by rfl) : Ev G K ρ σ (.List es p) (.lst xs) := fun A env F s E k => by
  refine List_ ?_
  rw [back_star p env hs]
  exact h.bind k fun vs F₁ s₁ S₁ r k₁ => wp_from S₁ (newList_ok k₁.rm r hl)
theorem ev_tuple {n : Nat} (h : EvL G K ρ σ es xs) (hl : xs.length ≤ sizeLine) (hs : es.all notStar = true := by rfl) : Ev G K ρ σ (.Tuple es n p) (.tup xs) := fun A env F s E k => by
  refine Tuple_ ?_
  rw [back_star p env hs]
  exact h.bind k fun vs F₁ s₁ S₁ r k₁ => wp_from S₁ (newTuple_ok k₁.rm r hl)

/-! ## subscripts -/
def notSlice : PySem.Expr → Bool
  | .Slice .. => false
  | _ => true
theorem subscripted_plain {slice : PySem.Expr} (h : notSlice slice = true) (o i : Value) : subscripted slice false o i = operate [o, i] (getItem o i) := by
  cases slice <;> first | rfl | cases h
theorem ev_idx {T id : String} (hl : typeLookup (.type T) "__getitem__" = pure (some (.builtin id))) (h1 : Ev G K ρ σ l x) (h2 : Ev G K ρ σ r (.int i)) (hn : notSlice r = true)
    (h : ∀ A env F s E v t, EOk G K A env ρ σ F s → Rel F x v → s.TypeIs v T ∧ wpAny G.M A (getItem v (.int i t)) (PV F s z) E s) : Ev G K ρ σ (.Subscript l r p) z :=
  fun A env F s E k => Subscript_ (h1.bind k fun v F₁ s₁ S₁ r₁ k₁ => h2.bind k₁ fun w F₂ s₂ S₂ r₂ k₂ => r₂.elim fun t e => by
    subst e
    have hw := h A env F₂ s₂ E v t k₂ (r₁.mono S₂.up)
    exact tail_any hw.1 hl (wp_from (S₁.trans S₂) hw.2) (subscripted_plain hn _ _))
theorem ev_idxs (h1 : Ev G K ρ σ l (.str a)) (h2 : Ev G K ρ σ r (.int i)) (h0 : 0 ≤ i) (hi : i < a.length) (hz : a.length < 2 ^ 62) (hn : notSlice r = true := by rfl) : Ev G K ρ σ (.Subscript l r p) (.str [a.getD i.toNat 0]) := by
  refine ev_idx F.slot_str_getitem.lookup h1 h2 hn ?_
  rintro A env F s E _ t k ⟨u, rfl⟩
  refine ⟨typeIs_str s _ u, P.getItem_str (c := a.getD i.toNat 0) ?_ ?_ (pv_tok k.rm _ ⟨_, rfl⟩)⟩
  · rw [decide_eq_false (by (exact a383 h0)), decide_eq_false (by (exact a384 hi hz))]; rfl
  · rw [length_str, seqIndex_of h0 hi]
    have : i.toNat < a.length := by (exact a385 h0 hi)
    simp [this]
theorem ev_idxl (h1 : Ev G K ρ σ l (.lst xs)) (h2 : Ev G K ρ σ r (.int i)) (h0 : 0 ≤ i) (hi : i < 2 ^ 62) (hz : xs[i.toNat]? = some z) (hn : notSlice r = true := by rfl) : Ev G K ρ σ (.Subscript l r p) z :=
  ev_idx slot_list_getitem.lookup h1 h2 hn fun A env F s E v t k rv => by
    obtain ⟨b, vs, rfl, hl, _, rl⟩ := lst_list k.rm rv
    exact ⟨hl.typeIs, (rl.get hz).elim fun v' q => wpAny_getItem_list hl h0 (Int.lt_trans hi (by decide)) (by simpa using q.1) (pv_same k q.2)⟩
theorem last_get {vs : List Value} (hz : xs.getLast? = some z) {F : Fz} (rl : RelL F xs vs) : 1 ≤ vs.length ∧ ∃ v, vs[((-1 : Int) + vs.length).toNat]? = some v ∧ Rel F z v := by
  rw [List.getLast?_eq_getElem?] at hz
  have h1 := (List.getElem?_eq_some_iff.mp hz).1
  have e := rl.length
  refine ⟨by (exact a365 h1 e), ?_⟩
  rw [show ((-1 : Int) + vs.length).toNat = xs.length - 1 by (exact a366 h1 e)]
  exact rl.get hz
theorem ev_idxl_last (h1 : Ev G K ρ σ l (.lst xs)) (h2 : Ev G K ρ σ r (.int (-1))) (hl : xs.length < 2 ^ 62) (hz : xs.getLast? = some z) (hn : notSlice r = true := by rfl) : Ev G K ρ σ (.Subscript l r p) z :=
  ev_idx slot_list_getitem.lookup h1 h2 hn fun A env F s E v t k rv => by
    obtain ⟨b, vs, rfl, hl, hn, rl⟩ := lst_list k.rm rv
    obtain ⟨h1, v', hv, r'⟩ := last_get hz rl
    exact ⟨hl.typeIs, wpAny_getItem_list_neg hl (by decide) (by rw [List.size_toArray]; (exact a368 h1 hn)) (by decide) (by rw [List.size_toArray]; simpa using hv) (pv_same k r')⟩
theorem own_list {A : Around} {env : Env} {F : Fz} {s : Shared} {b : Addr} (k : EOk G K A env ρ σ F s) (h : σ b = some xs) : ∃ vs, s.heap.IsList b (List.toArray vs) ∧ RelL F xs vs :=
  (k.own b xs h).2.imp fun _ q => q.elim fun n q => ⟨⟨_, q.1, rfl, n, rfl⟩, q.2⟩
theorem ev_idxo_last {b : Addr} (h1 : Ev G K ρ σ l (.ref b)) (h2 : Ev G K ρ σ r (.int (-1))) (hb : σ b = some xs) (hz : xs.getLast? = some z) (hn : notSlice r = true := by rfl) : Ev G K ρ σ (.Subscript l r p) z :=
  ev_idx slot_list_getitem.lookup h1 h2 hn fun A env F s E v t k rv => by
    cases show v = .ref b from rv
    obtain ⟨vs, hl, rl⟩ := own_list k hb
    obtain ⟨h1, v', hv, r'⟩ := last_get hz rl
    exact ⟨hl.typeIs, wpAny_getItem_list_neg hl (by decide) (by rw [List.size_toArray]; (exact a367 h1)) (by decide) (by rw [List.size_toArray]; simpa using hv) (pv_same k r')⟩
theorem ev_idxc (h1 : Ev G K ρ σ l (.scr xs)) (h2 : Ev G K ρ σ r (.int i)) (h0 : 0 ≤ i) (hi : i < 2 ^ 62) (hz : xs[i.toNat]? = some z) (hn : notSlice r = true := by rfl) : Ev G K ρ σ (.Subscript l r p) z :=
  ev_idx slot_list_getitem.lookup h1 h2 hn fun A env F s E v t k rv => by
    obtain ⟨b, vs, rfl, ⟨o, ho, q⟩, rl⟩ := rv
    have hl : s.heap.IsList b vs.toArray := ⟨o, k.rm.sub _ _ ho, q⟩
    exact ⟨hl.typeIs, (rl.get hz).elim fun v' q => wpAny_getItem_list hl h0 (Int.lt_trans hi (by decide)) (by simpa using q.1) (pv_same k q.2)⟩
theorem ev_idxt (h1 : Ev G K ρ σ l (.tup xs)) (h2 : Ev G K ρ σ r (.int i)) (h0 : 0 ≤ i) (hi : i < 2 ^ 62) (hz : xs[i.toNat]? = some z) (hn : notSlice r = true := by rfl) : Ev G K ρ σ (.Subscript l r p) z :=
  ev_idx slot_tuple_getitem.lookup h1 h2 hn fun A env F s E v t k rv => by
    obtain ⟨b, vs, rfl, ⟨n, ho⟩, rl⟩ := rv
    have ht : IsTup s.heap b vs.toArray := ⟨_, k.rm.sub _ _ ho, rfl, n, rfl⟩
    have h1 := (List.getElem?_eq_some_iff.mp hz).1
    exact ⟨ht.typeIs, (rl.get hz).elim fun v' q => getItem_tuple ht (by (exact a371 h0)) (by (exact a373 hi)) (by rw [List.size_toArray, rl.length]; exact seqIndex_of h0 (by (exact a375 h0 h1))) (by simpa using q.1) (pv_same k q.2)⟩
/-! ## slices of texts -/
def clampI (o : Option Int) (dflt n : Nat) : Nat :=
  match o with
  | none => dflt
  | some i => if i < 0 then (i + n).toNat else min i.toNat n
def slice {α : Type} (xs : List α) (lo hi : Option Int) : List α := (xs.take (clampI hi xs.length xs.length)).drop (clampI lo 0 xs.length)
theorem clampI_le (o : Option Int) (d n : Nat) (hd : d ≤ n) : clampI o d n ≤ n := by
  unfold clampI
  split
  · exact hd
  · split <;> (first | exact a369 ‹_› | exact a370 )
theorem strIdx (lo hi : Option Int) (n : Nat) : Builtin.Str.strSliceIndices lo hi 1 n = (List.range (clampI hi n n - clampI lo 0 n)).map (clampI lo 0 n + ·) := by
  rw [← sliceRange_one]
  unfold Builtin.Str.strSliceIndices
  simp only [show (1 : Int) > 0 by decide, if_true]
  congr 1
  · cases lo with
    | none => rfl
    | some i => simp only [clampI]; split <;> (first | exact a376 ‹_› | exact a377 ‹_›)
  · cases hi with
    | none => rfl
    | some i => simp only [clampI]; split <;> (first | exact a376 ‹_› | exact a377 ‹_›)
theorem slice_full {α : Type} (xs : List α) (lo hi : Option Int) (h : clampI hi xs.length xs.length - clampI lo 0 xs.length = xs.length) : slice xs lo hi = xs := by
  have h1 := clampI_le hi xs.length xs.length (Nat.le_refl _)
  have h2 := clampI_le lo 0 xs.length (Nat.zero_le _)
  unfold slice
  by_cases h0 : xs.length = 0
  · rw [List.eq_nil_of_length_eq_zero h0]; simp
  · rw [show clampI lo 0 xs.length = 0 by (exact a372 h h1 h0), show clampI hi xs.length xs.length = xs.length by (exact a374 h h1)]; simp
theorem part_val {vl : Value} {o : Option Int} (p : IsPart vl o) : ∃ l : Option (Int × Tok), vl = partValue l ∧ l.map (·.1) = o := by
  cases p with
  | none => exact ⟨none, rfl, rfl⟩
  | int i t => exact ⟨some (i, t), rfl, rfl⟩
theorem slice_str_ok {A : Around} {F : Fz} {s : Shared} {E : Value → Shared → Prop} {t : Tok} {sl : Addr} {vl vu : Value} {lo hi : Option Int} (R : Rm G A F s) (pl : IsPart vl lo) (pu : IsPart vu hi)
    (hs : ∃ o, s.heap.get? sl = some o ∧ o.cls = .type "slice" ∧ o.data = .fields #[vl, vu, .none]) (hl : a.length ≤ sizeLine) : wpAny G.M A (getItem (.str ⟨a.toArray⟩ t) (.ref sl)) (PV F s (.str (slice a lo hi))) E s := by
  obtain ⟨l, rfl, el⟩ := part_val pl
  obtain ⟨u, rfl, eu⟩ := part_val pu
  refine wpAny_getItem_str_slice (l := l) (u := u) (st := none) hs rfl ?_
  have hp : slicePicked ⟨a.toArray⟩ l u none = (List.range (clampI hi a.length a.length - clampI lo 0 a.length)).map (clampI lo 0 a.length + ·) := by
    unfold slicePicked
    rw [el, eu, length_str]
    exact strIdx lo hi a.length
  unfold sliceMade
  rw [hp, length_str]
  split
  · rename_i hc
    rw [slice_full a lo hi (by simpa using hc)]
    exact pv_tok R s.toks ⟨_, rfl⟩
  · have e : ((List.range (clampI hi a.length a.length - clampI lo 0 a.length)).map (clampI lo 0 a.length + ·)).filterMap (fun x => (⟨a.toArray⟩ : Str).cps[x]?) = slice a lo hi := by
      have := pick_run a.toArray (clampI lo 0 a.length) (clampI hi a.length a.length - clampI lo 0 a.length)
      unfold slice
      rw [List.drop_take]
      simpa using this
    rw [e]
    refine made_str R (Nat.le_trans ?_ hl)
    unfold slice
    rw [List.length_drop, List.length_take]
    exact Nat.le_trans (Nat.sub_le _ _) (Nat.min_le_right _ _)
def EvO (G : Gl) (K : Sx) (ρ : List V) (σ : Ow) (e : Option PySem.Expr) (o : Option Int) : Prop :=
  ∀ A env F s E R, EOk G K A env ρ σ F s → (∀ v F' s', St N0 F s F' s' → IsPart v o → EOk G K A env ρ σ F' s' → R v s') → wpAny G.M A (evalPart e env) R E s
theorem evo_none : EvO G K ρ σ none none := fun A env F s E R k h => wpAny_evalPart_none (h _ F s (.refl k.rm.sub) .none k)
theorem evo_some (h1 : Ev G K ρ σ e (.int i)) : EvO G K ρ σ (some e) (some i) := fun A env F s E R k h =>
  wpAny_evalPart_some (h1.bind k fun v F₁ s₁ S₁ r₁ k₁ => r₁.elim fun t e => h v F₁ s₁ S₁ (e ▸ .int i t) k₁)
theorem ev_slc {lo hi : Option PySem.Expr} {m n : Option Int} (h1 : Ev G K ρ σ l (.str a)) (h2 : EvO G K ρ σ lo m) (h3 : EvO G K ρ σ hi n) (hl : a.length ≤ sizeLine) : Ev G K ρ σ (.Subscript l (.Slice lo hi none q) p) (.str (slice a m n)) :=
  fun A env F₀ s E k => Subscript_ (h1.bind k fun v F₁ s₁ S₁ r₁ k₁ => wpAny_Slice (h2 A env F₁ s₁ E _ k₁ fun vl F₂ s₂ S₂ pl k₂ => h3 A env F₂ s₂ E _ k₂ fun vu F₃ s₃ S₃ pu k₃ => wpAny_evalPart_none (r₁.elim fun t e => by
    subst e
    have S₄ : St N0 F₃ s₃ F₃ { s₃ with heap := s₃.heap.push { cls := .type "slice", data := .fields #[vl, vu, .none] } } := St.grow k₃.rm.sub fun _ _ e => Heap.get?_push_of_some _ e
    refine tail_any (ops := [.ref s₃.heap.objs.size, .str ⟨a.toArray⟩ t]) (typeIs_str _ _ t) F.slot_str_getitem.lookup ?_ rfl
    exact wp_from (((S₁.trans S₂).trans S₃).trans S₄) (slice_str_ok (k₃.rm.step S₄) pl pu ⟨_, Heap.get?_push_size _ rfl, rfl, rfl⟩ hl))))
end
end Mine

set_option autoImplicit false
set_option linter.all false
set_option genSizeOf false
set_option genInjectivity false
set_option maxRecDepth 100000
namespace Mine
open PySem PyProof.Rows

section
variable {M : Model} {A : Around} {E : Value → Shared → Prop} {s : Shared}
theorem evalArgs_list {f : Value} {args : List (Bool × Sem Value)} {Q : Args → Shared → Prop} (hp : args.all (fun x => !x.1) = true) (h : wpAny M A (spliced args) (fun vs s' => Q ⟨vs, []⟩ s') E s) :
    wpAny M A (evalArgs f true args []) Q E s := by
  cases args with
  | nil =>
    unfold evalArgs
    show wpAny M A (spliced [] >>= _) Q E s
    exact wpAny_bind (wpAny_mono h (fun vs s' h' => wpAny_bind (wpAny_pure (wpAny_holding (wpAny_bind (wpAny_pure (wpAny_bind (wpAny_pure (wpAny_pure h')))))))) fun _ _ x => x)
  | cons x rest =>
    obtain ⟨b, t⟩ := x
    cases b with
    | true => exact nomatch hp
    | false => exact Calls.evalArgs_plain h
end
theorem all_false (es : List PySem.Expr) (env : Env) : (es.map fun e => (false, eval e env)).all (fun x => !x.1) = true := by simp
theorem any_false (es : List PySem.Expr) (env : Env) : (es.map fun e => (false, eval e env)).any (·.1) = false := by simp

section
variable {G : Gl} {K : Sx} {ρ : List V} {σ : Ow} {e l r : PySem.Expr} {es : List PySem.Expr} {x y z : V} {p q : Pos} {b c : Bool} {i j : Int} {a a' : List Nat} {xs ys : List V} {A : Around} {env : Env} {F : Fz} {s : Shared} {E : Value → Shared → Prop} {f : Str}

/-! ## calls of built-in functions -/
theorem ev_cb (n : Nat) {id : String} (hb : blts[n]? = some (f, .builtin id)) (hg : globOK K f = true) (hs : es.all notStar = true) (ha : EvL G K ρ σ es xs)
    (h : ∀ A env F s E vs, EOk G K A env ρ σ F s → RelL F xs vs → wpAny G.M A (call (.builtin id) vs) (PV F s z) E s) : Ev G K ρ σ (.Call (.Name f q) es [] p) z := fun A env F s E k => by
  refine wpAny_Call_NameR (name_global k (.inr (k.rm.go.blt n f _ hb)) hg ?_)
  rw [back_star p env hs]
  exact Calls.callWith_builtin (any_false es env) (evalArgs_list (all_false es env) (ha.bind k fun vs F₁ s₁ S₁ r₁ k₁ => wp_from S₁ (h A env F₁ s₁ E vs k₁ r₁)))
theorem ev_ct (n : Nat) {T : String} (hb : blts[n]? = some (f, .type T)) (hg : globOK K f = true) (hs : es.all notStar = true) (ha : EvL G K ρ σ es xs)
    (h : ∀ A env F s E vs, EOk G K A env ρ σ F s → RelL F xs vs → wpAny G.M A (call (.type T) vs) (PV F s z) E s) : Ev G K ρ σ (.Call (.Name f q) es [] p) z := fun A env F s E k => by
  refine wpAny_Call_NameR (name_global k (.inr (k.rm.go.blt n f _ hb)) hg ?_)
  rw [back_star p env hs]
  exact PyProof.Rows.callWith_type (any_false es env) (evalArgs_list (all_false es env) (ha.bind k fun vs F₁ s₁ S₁ r₁ k₁ => wp_from S₁ (h A env F₁ s₁ E vs k₁ r₁)))
theorem rel1 {vs : List Value} (r : RelL F [x] vs) : ∃ v, vs = [v] ∧ Rel F x v := r.imp fun v q => q.elim fun ws q => ⟨q.1.trans (congrArg _ q.2.2), q.2.1⟩
theorem ev_len (h : ∀ A env F s E v, EOk G K A env ρ σ F s → Rel F x v → wpAny G.M A (call (.builtin "len") [v]) (PV F s z) E s) (h1 : Ev G K ρ σ e x) (hs : notStar e = true) (hg : globOK K "len" = true) : Ev G K ρ σ (.Call (.Name "len" q) [e] [] p) z :=
  ev_cb 0 rfl hg (by rw [List.all_cons, hs]; rfl) (evl_cons h1 evl_nil) fun A env F s E vs k r => (rel1 r).elim fun v q => q.1 ▸ h A env F s E v k q.2
theorem ev_lens (h1 : Ev G K ρ σ e (.str a)) (hl : a.length < 2 ^ 62) (hs : notStar e = true := by rfl) (hg : globOK K "len" = true := by decide +kernel) : Ev G K ρ σ (.Call (.Name "len" q) [e] [] p) (.int a.length) :=
  ev_len (by rintro A env F s E _ k ⟨t, rfl⟩; exact P.len_str (by rw [length_str]; (exact a362 hl)) (pv_tok k.rm _ ⟨_, rfl⟩)) h1 hs hg
theorem len_of {b : Addr} {vs : List Value} (k : EOk G K A env ρ σ F s) (hl : s.heap.IsList b vs.toArray) (hn : vs.length = xs.length) (h : xs.length < 2 ^ 62) : wpAny G.M A (call (.builtin "len") [.ref b]) (PV F s (.int xs.length)) E s :=
  len_list hl (by rw [List.size_toArray]; (exact a361 hn h)) (by rw [List.size_toArray, hn]; exact pv_tok k.rm _ ⟨_, rfl⟩)
theorem ev_lenl (h1 : Ev G K ρ σ e (.lst xs)) (hl : xs.length < 2 ^ 62) (hs : notStar e = true := by rfl) (hg : globOK K "len" = true := by decide +kernel) : Ev G K ρ σ (.Call (.Name "len" q) [e] [] p) (.int xs.length) :=
  ev_len (fun A env F s E v k r => by obtain ⟨b, vs, rfl, h, hn, _⟩ := lst_list k.rm r; exact len_of k h hn hl) h1 hs hg
theorem ev_leno {b : Addr} (h1 : Ev G K ρ σ e (.ref b)) (hb : σ b = some xs) (hl : xs.length < 2 ^ 62) (hs : notStar e = true := by rfl) (hg : globOK K "len" = true := by decide +kernel) : Ev G K ρ σ (.Call (.Name "len" q) [e] [] p) (.int xs.length) :=
  ev_len (fun A env F s E v k r => by cases show v = .ref b from r; obtain ⟨vs, h, hn⟩ := own_list k hb; exact len_of k h hn.length hl) h1 hs hg
theorem ev_lenc (h1 : Ev G K ρ σ e (.scr xs)) (hl : xs.length < 2 ^ 62) (hs : notStar e = true := by rfl) (hg : globOK K "len" = true := by decide +kernel) : Ev G K ρ σ (.Call (.Name "len" q) [e] [] p) (.int xs.length) :=
  ev_len (fun A env F s E v k r => by obtain ⟨b, vs, rfl, ⟨o, ho, t⟩, rl⟩ := r; exact len_of k ⟨o, k.rm.sub _ _ ho, t⟩ rl.length hl) h1 hs hg
theorem ev_lent (h1 : Ev G K ρ σ e (.tup xs)) (hl : xs.length < 2 ^ 62) (hs : notStar e = true := by rfl) (hg : globOK K "len" = true := by decide +kernel) : Ev G K ρ σ (.Call (.Name "len" q) [e] [] p) (.int xs.length) :=
  ev_len (fun A env F s E v k r => by
    obtain ⟨b, vs, rfl, ⟨n, ho⟩, rl⟩ := r
    have ht : IsTup s.heap b vs.toArray := ⟨_, k.rm.sub _ _ ho, rfl, n, rfl⟩
    exact len_tuple ht (by rw [List.size_toArray, rl.length]; (exact a363 hl)) (by rw [List.size_toArray, rl.length]; exact pv_tok k.rm _ ⟨_, rfl⟩)) h1 hs hg
theorem ev_range1 (h1 : Ev G K ρ σ e (.int i)) (h2 : -(2 ^ 62) ≤ i) (h3 : i < 2 ^ 62) (hs : notStar e = true := by rfl) (hg : globOK K "range" = true := by decide +kernel) : Ev G K ρ σ (.Call (.Name "range" q) [e] [] p) (.rng 0 i) :=
  ev_ct 2 rfl hg (by rw [List.all_cons, hs]; rfl) (evl_cons h1 evl_nil) (by
    rintro A env F s E _ k ⟨_, _, rfl, ⟨t, rfl⟩, rfl⟩
    exact call_range_1 (pv_push k.rm _ _ ⟨⟨by decide, by decide, h2, h3⟩, _, _, _, _, rfl, Fz.add_self⟩ rfl))
theorem ev_range2 (h0 : Ev G K ρ σ l (.int j)) (h1 : Ev G K ρ σ e (.int i)) (h4 : -(2 ^ 62) ≤ j) (h5 : j < 2 ^ 62) (h2 : -(2 ^ 62) ≤ i) (h3 : i < 2 ^ 62) (hs : notStar l = true := by rfl) (hs' : notStar e = true := by rfl) (hg : globOK K "range" = true := by decide +kernel) : Ev G K ρ σ (.Call (.Name "range" q) [l, e] [] p) (.rng j i) :=
  ev_ct 2 rfl hg (by rw [List.all_cons, hs, List.all_cons, hs']; rfl) (evl_cons h0 (evl_cons h1 evl_nil)) (by
    rintro A env F s E _ k ⟨_, _, rfl, ⟨t, rfl⟩, _, _, rfl, ⟨u, rfl⟩, rfl⟩
    exact call_range_2 (pv_push k.rm _ _ ⟨⟨h4, h5, h2, h3⟩, _, _, _, _, rfl, Fz.add_self⟩ rfl))
theorem tuple_of {b : Addr} {vs : List Value} (k : EOk G K A env ρ σ F s) (hu : s.heap.IsList b vs.toArray) (rl : RelL F xs vs) (h : xs.length ≤ sizeLine) : wpAny G.M A (call (.type "tuple") [.ref b]) (PV F s (.tup xs)) E s := by
  refine call_tuple_list hu (fun h' hk => ?_) (by rw [List.size_toArray, rl.length]; exact h)
  have S : St N0 F s F { s with heap := h', toks := s.toks } := .grow k.rm.sub hk
  exact PV.from S (pv_push (k.rm.step S) (tobj vs 0) s.toks ⟨_, vs, rfl, ⟨0, Fz.add_self⟩, rl.mono (add_up (k.rm.step S))⟩ rfl)
theorem ev_tuplo {b : Addr} (h1 : Ev G K ρ σ e (.ref b)) (hb : σ b = some xs) (hl : xs.length ≤ sizeLine) (hs : notStar e = true := by rfl) (hg : globOK K "tuple" = true := by decide +kernel) : Ev G K ρ σ (.Call (.Name "tuple" q) [e] [] p) (.tup xs) :=
  ev_ct 5 rfl hg (by rw [List.all_cons, hs]; rfl) (evl_cons h1 evl_nil) (fun A env F s E vs k r => by
    obtain ⟨v, rfl, r₀⟩ := rel1 r
    cases (show v = .ref b from r₀)
    obtain ⟨vs, h, hn⟩ := own_list k hb; exact tuple_of k h hn hl)
theorem ev_min2 (h0 : Ev G K ρ σ l (.int j)) (h1 : Ev G K ρ σ e (.int i)) (hs : notStar l = true := by rfl) (hs' : notStar e = true := by rfl) (hg : globOK K "min" = true := by decide +kernel) : Ev G K ρ σ (.Call (.Name "min" q) [l, e] [] p) (.int (min j i)) :=
  ev_cb 3 rfl hg (by rw [List.all_cons, hs, List.all_cons, hs']; rfl) (evl_cons h0 (evl_cons h1 evl_nil)) (by
    rintro A env F s E _ k ⟨_, _, rfl, ⟨t, rfl⟩, _, _, rfl, ⟨u, rfl⟩, rfl⟩
    refine min_two_ints k.rm.handled fun h' tk hk => ⟨F, .grow k.rm.sub hk, ?_⟩
    split
    · exact ⟨_, by rw [Int.min_eq_right (by (exact a305 ‹_›))]⟩
    · exact ⟨_, by rw [Int.min_eq_left (by (exact a21 ‹_›))]⟩)
theorem ev_int1 (h1 : Ev G K ρ σ e (.bool b)) (hs : notStar e = true := by rfl) (hg : globOK K "int" = true := by decide +kernel) : Ev G K ρ σ (.Call (.Name "int" q) [e] [] p) (.int (if b then 1 else 0)) :=
  ev_ct 4 rfl hg (by rw [List.all_cons, hs]; rfl) (evl_cons h1 evl_nil) (fun A env F s E vs k r => by
    obtain ⟨v, rfl, r₀⟩ := rel1 r
    cases (show v = .bool b from r₀)
    exact call_int_bool (pv_tok k.rm _ ⟨_, rfl⟩))

/-! ## isinstance -/
def Inst (G : Gl) (T : String) (x : V) (b : Bool) : Prop := ∀ A F s E v, Rm G A F s → Rel F x v → wpAny G.M A (call (.builtin "isinstance") [v, .type T]) (PV F s (.bool b)) E s
theorem ev_inst (n : Nat) {T : String} {t : Str} {pt : Pos} (h : Inst G T x b) (h1 : Ev G K ρ σ e x) (hb : blts[n]? = some (t, .type T) := by rfl) (hs : notStar e = true := by rfl) (hg : globOK K "isinstance" = true := by decide +kernel) (ht : globOK K t = true := by decide +kernel) : Ev G K ρ σ (.Call (.Name "isinstance" q) [e, .Name t pt] [] p) (.bool b) :=
  ev_cb 1 rfl hg (by rw [List.all_cons, hs]; rfl) (evl_cons h1 (evl_cons (ev_blt n hb ht) evl_nil)) (by
    rintro A env F s E _ k ⟨v, _, rfl, r, _, _, rfl, rfl, rfl⟩
    exact h A F s E v k.rm r)
theorem is_none_str : Inst G "str" (.none) false := by rintro A F s E _ R rfl; exact IsiPair.NoneType_str (pv_tok R _ rfl)
theorem is_bool_str : Inst G "str" (.bool c) false := by rintro A F s E _ R rfl; exact IsiPair.bool_str (pv_tok R _ rfl)
theorem is_int_str : Inst G "str" (.int i) false := by rintro A F s E _ R ⟨_, rfl⟩; exact IsiPair.int_str (pv_tok R _ rfl)
theorem is_str_str : Inst G "str" (.str a) true := by rintro A F s E _ R ⟨_, rfl⟩; exact IsiPair.str_str (pv_tok R s.toks rfl)
theorem is_tup_str : Inst G "str" (.tup xs) false := by rintro A F s E _ R ⟨_, _, rfl, ⟨_, h⟩, _⟩; exact IsiPair.tuple_str (R.sub _ _ h) rfl (pv_tok R _ rfl)
theorem is_lst_str : Inst G "str" (.lst xs) false := by rintro A F s E _ R ⟨_, _, rfl, ⟨_, h⟩, _⟩; exact IsiPair.list_str (R.sub _ _ h) rfl (pv_tok R _ rfl)
theorem is_none_int : Inst G "int" (.none) false := by rintro A F s E _ R rfl; exact IsiPair.NoneType_int (pv_tok R _ rfl)
theorem is_bool_int : Inst G "int" (.bool c) true := by rintro A F s E _ R rfl; exact IsiPair.bool_int (pv_tok R s.toks rfl)
theorem is_int_int : Inst G "int" (.int i) true := by rintro A F s E _ R ⟨_, rfl⟩; exact IsiPair.int_int (pv_tok R s.toks rfl)
theorem is_str_int : Inst G "int" (.str a) false := by rintro A F s E _ R ⟨_, rfl⟩; exact IsiPair.str_int (pv_tok R _ rfl)
theorem is_tup_int : Inst G "int" (.tup xs) false := by rintro A F s E _ R ⟨_, _, rfl, ⟨_, h⟩, _⟩; exact IsiPair.tuple_int (R.sub _ _ h) rfl (pv_tok R _ rfl)
theorem is_lst_int : Inst G "int" (.lst xs) false := by rintro A F s E _ R ⟨_, _, rfl, ⟨_, h⟩, _⟩; exact IsiPair.list_int (R.sub _ _ h) rfl (pv_tok R _ rfl)
theorem is_none_bool : Inst G "bool" (.none) false := by rintro A F s E _ R rfl; exact IsiPair.NoneType_bool (pv_tok R _ rfl)
theorem is_bool_bool : Inst G "bool" (.bool c) true := by rintro A F s E _ R rfl; exact IsiPair.bool_bool (pv_tok R s.toks rfl)
theorem is_int_bool : Inst G "bool" (.int i) false := by rintro A F s E _ R ⟨_, rfl⟩; exact IsiPair.int_bool (pv_tok R _ rfl)
theorem is_str_bool : Inst G "bool" (.str a) false := by rintro A F s E _ R ⟨_, rfl⟩; exact IsiPair.str_bool (pv_tok R _ rfl)
theorem is_tup_bool : Inst G "bool" (.tup xs) false := by rintro A F s E _ R ⟨_, _, rfl, ⟨_, h⟩, _⟩; exact IsiPair.tuple_bool (R.sub _ _ h) rfl (pv_tok R _ rfl)
theorem is_lst_bool : Inst G "bool" (.lst xs) false := by rintro A F s E _ R ⟨_, _, rfl, ⟨_, h⟩, _⟩; exact IsiPair.list_bool (R.sub _ _ h) rfl (pv_tok R _ rfl)
theorem is_none_tuple : Inst G "tuple" (.none) false := by rintro A F s E _ R rfl; exact IsiPair.NoneType_tuple (pv_tok R _ rfl)
theorem is_bool_tuple : Inst G "tuple" (.bool c) false := by rintro A F s E _ R rfl; exact IsiPair.bool_tuple (pv_tok R _ rfl)
theorem is_int_tuple : Inst G "tuple" (.int i) false := by rintro A F s E _ R ⟨_, rfl⟩; exact IsiPair.int_tuple (pv_tok R _ rfl)
theorem is_str_tuple : Inst G "tuple" (.str a) false := by rintro A F s E _ R ⟨_, rfl⟩; exact IsiPair.str_tuple (pv_tok R _ rfl)
theorem is_tup_tuple : Inst G "tuple" (.tup xs) true := by rintro A F s E _ R ⟨_, _, rfl, ⟨_, h⟩, _⟩; exact IsiPair.tuple_tuple (R.sub _ _ h) rfl (pv_tok R s.toks rfl)
theorem is_lst_tuple : Inst G "tuple" (.lst xs) false := by rintro A F s E _ R ⟨_, _, rfl, ⟨_, h⟩, _⟩; exact IsiPair.list_tuple (R.sub _ _ h) rfl (pv_tok R _ rfl)
theorem is_none_list : Inst G "list" (.none) false := by rintro A F s E _ R rfl; exact IsiPair.NoneType_list (pv_tok R _ rfl)
theorem is_bool_list : Inst G "list" (.bool c) false := by rintro A F s E _ R rfl; exact IsiPair.bool_list (pv_tok R _ rfl)
theorem is_int_list : Inst G "list" (.int i) false := by rintro A F s E _ R ⟨_, rfl⟩; exact IsiPair.int_list (pv_tok R _ rfl)
theorem is_str_list : Inst G "list" (.str a) false := by rintro A F s E _ R ⟨_, rfl⟩; exact IsiPair.str_list (pv_tok R _ rfl)
theorem is_tup_list : Inst G "list" (.tup xs) false := by rintro A F s E _ R ⟨_, _, rfl, ⟨_, h⟩, _⟩; exact IsiPair.tuple_list (R.sub _ _ h) rfl (pv_tok R _ rfl)
theorem is_lst_list : Inst G "list" (.lst xs) true := by rintro A F s E _ R ⟨_, _, rfl, ⟨_, h⟩, _⟩; exact IsiPair.list_list (R.sub _ _ h) rfl (pv_tok R s.toks rfl)

/-! ## calls of the text's functions -/
def fnA (mg : Str → Option Value) (f : Str) : Addr := match mg f with | some (.ref a) => a | _ => 0
abbrev Gl.fn (G : Gl) (f : Str) : Addr := fnA G.mg f
structure Pure (G : Gl) (f : Str) (xs : List V) (z : V) : Prop where
  is : ∃ o fd, G.mg f = some (.ref (G.fn f)) ∧ G.B.get? (G.fn f) = some o ∧ o.data = .func fd
  run : ∀ A F s E vs, Rm G A F s → RelL F xs vs → wpAny G.M A (call (.ref (G.fn f)) vs) (PV F s z) E s
theorem ev_call (h : Pure G f xs z) (ha : EvL G K ρ σ es xs) (hs : es.all notStar = true := by rfl) (hg : globOK K f = true := by decide +kernel) : Ev G K ρ σ (.Call (.Name f q) es [] p) z := fun A env F s E k => by
  obtain ⟨o, fd, hf, ho, hfd⟩ := h.is
  refine wpAny_Call_NameR (name_global k (.inl hf) hg ?_)
  rw [back_star p env hs]
  exact Calls.callWith_function (evalArgs_list (all_false es env) (ha.bind k fun vs F₁ s₁ S₁ r₁ k₁ => ⟨⟨k₁.rm.in _ _ ho, hfd⟩, wp_from S₁ (h.run A F₁ s₁ E vs k₁.rm r₁)⟩))

/-! ## startswith -/
theorem starts_eq (a b : List Nat) : Txt.startswith ⟨a.toArray⟩ ⟨b.toArray⟩ = b.isPrefixOf a := by
  unfold Txt.startswith
  rw [length_str, length_str, StrLaws.subAt_eq, length_str]
  simp only [Nat.zero_add, List.drop_zero]
  rw [Bool.eq_iff_iff]
  simp only [Bool.and_eq_true, decide_eq_true_eq, beq_iff_eq, List.isPrefixOf_iff_prefix]
  constructor
  · rintro ⟨_, h⟩; exact ⟨a.drop b.length, by have := List.take_append_drop b.length a; rw [h] at this; exact this⟩
  · rintro ⟨c, rfl⟩; simp
/-- a method of a built-in type, found on the value -/
theorem meth_gen {n : Str} {id : String} {ap : Pos} {Q : Value → Shared → Prop} (h1 : Ev G K ρ σ e x) (hn : ∀ n env t, attributeBase e n env t = t) (hl : (ap.endLine == p.line) = true) (hs : es.all notStar = true) (h8 : es.length < 8) (k : EOk G K A env ρ σ F s)
    (hm : ∀ F s v pl Q, EOk G K A env ρ σ F s → Rel F x v → Q (.builtin id, [v]) s → wpAny G.M A (getMethod v n pl) Q E s)
    (h : ∀ v F₁ s₁, St N0 F s F₁ s₁ → EOk G K A env ρ σ F₁ s₁ → Rel F₁ x v → wpAny G.M A (spliced (es.map fun e => (false, eval e env))) (fun vs s₂ => wpAny G.M A (call (.builtin id) (v :: vs)) Q E s₂) E s₁) : wpAny G.M A (eval (.Call (.Attribute e n ap) es [] p) env) Q E s := by
  rw [arm_eval_Call]
  rw [hn]
  refine wpAny_bind (h1.bind k fun v F₁ s₁ S₁ r₁ k₁ => wpAny_bind (wpAny_standAt ?_))
  rw [back_star p env hs]
  have hform : methodCallForm (es.length + ([] : List Keyword).length) (es.map fun e => (false, eval e env)) (backToKw p (keywordEach [] env)) = true := by
    show ((es.map fun e => (false, eval e env)).all (fun x => !x.1) && true && decide (es.length + 0 + 0 < 30)) = true
    rw [all_false, decide_eq_true (by (exact a380 h8))]; rfl
  have hpos : methodCallPos true e env ap p = pure p := by unfold methodCallPos; simp [hl]
  unfold methodCall
  rw [hform]
  refine wpAny_bind (wpAny_holding (hm F₁ s₁ v _ _ k₁ r₁ (wpAny_bind (wpAny_of_eq hpos ?_))))
  exact Calls.callWith_builtin (any_false es env) (evalArgs_list (all_false es env) (h v F₁ s₁ S₁ k₁ r₁))
theorem meth_ok {n : Str} {id : String} {ap : Pos} {Q : Value → Shared → Prop} (h1 : Ev G K ρ σ e x) (hn : ∀ n env t, attributeBase e n env t = t) (hl : (ap.endLine == p.line) = true) (hs : es.all notStar = true) (h8 : es.length < 8) (ha : EvL G K ρ σ es xs) (k : EOk G K A env ρ σ F s)
    (hm : ∀ F s v pl Q, EOk G K A env ρ σ F s → Rel F x v → Q (.builtin id, [v]) s → wpAny G.M A (getMethod v n pl) Q E s)
    (h : ∀ v vs F₁ s₁, St N0 F s F₁ s₁ → EOk G K A env ρ σ F₁ s₁ → Rel F₁ x v → RelL F₁ xs vs → wpAny G.M A (call (.builtin id) (v :: vs)) Q E s₁) : wpAny G.M A (eval (.Call (.Attribute e n ap) es [] p) env) Q E s :=
  meth_gen h1 hn hl hs h8 k hm fun v F₁ s₁ S₁ k₁ r₁ => ha.bind k₁ fun vs F₂ s₂ S₂ r₂ k₂ => h v vs F₂ s₂ (S₁.trans S₂) k₂ (r₁.mono S₂.up) r₂
theorem ev_starts {ap : Pos} (h1 : Ev G K ρ σ e (.str a)) (h2 : Ev G K ρ σ l (.str a')) (hn : ∀ n env t, attributeBase e n env t = t := by intros; rfl) (hl : (ap.endLine == p.line) = true := by rfl) (hs : notStar l = true := by rfl) : Ev G K ρ σ (.Call (.Attribute e "startswith" ap) [l] [] p) (.bool (a'.isPrefixOf a)) := fun A env F s E k =>
  meth_ok (id := "str.startswith") h1 hn hl (by rw [List.all_cons, hs]; rfl) (Nat.lt_of_sub_eq_succ rfl) (evl_cons h2 evl_nil) k (by rintro F s _ pl Q k ⟨t, rfl⟩ h; exact GM.startswith h)
    (by rintro _ _ F₁ s₁ S₁ k₁ ⟨t, rfl⟩ ⟨_, _, rfl, ⟨u, rfl⟩, rfl⟩; exact SC.startswith (by rw [starts_eq]; exact ⟨F₁, S₁, rfl⟩))
end
end Mine

set_option autoImplicit false
set_option linter.all false
set_option genSizeOf false
set_option genInjectivity false
set_option maxRecDepth 100000
namespace Mine
open PySem PySem.W PyProof.Rows

def RowV (r : Row) : V := .tup [.str r.1, .int r.2]
theorem rel_row {F : Fz} {v : Value} {r : Row} (x : Rel F (RowV r) v) : ∃ a t u n, v = .ref a ∧ F a = some (tobj [.str ⟨r.1.toArray⟩ t, .int r.2 u] n) := by
  obtain ⟨a, _, rfl, ⟨n, h⟩, _, _, rfl, ⟨t, rfl⟩, _, _, rfl, ⟨u, rfl⟩, rfl⟩ := x
  exact ⟨a, t, u, n, rfl, h⟩
theorem row_inj {F : Fz} {v : Value} {r r' : Row} (x : Rel F (RowV r) v) (y : Rel F (RowV r') v) : r = r' := by
  obtain ⟨a, t, u, n, rfl, ht⟩ := rel_row x
  obtain ⟨a', t', u', n', e, ht'⟩ := rel_row y
  cases e
  have e1 := Obj.mk.inj (Option.some.inj (ht.symm.trans ht'))
  have e2 := congrArg Array.toList (Data.seq.inj e1.2.2.1).1
  have e3 := List.cons.inj e2
  have e4 := Value.str.inj e3.1
  have e5 := Value.int.inj (List.cons.inj e3.2).1
  exact Prod.ext (congrArg Array.toList (Str.mk.inj e4.1)) e5.1

section
variable {prog : Program} {w : World} {A : Around} {E : Value → Shared → Prop} {s : Shared} {F : Fz}
theorem str_eq_iff (a b : List Nat) : ((⟨a.toArray⟩ : Str) == ⟨b.toArray⟩) = decide (a = b) := by
  by_cases h : a = b
  · subst h; rw [decide_eq_true rfl]; exact beq_self_eq_true _
  · rw [decide_eq_false h]
    have : (⟨a.toArray⟩ : Str) ≠ ⟨b.toArray⟩ := fun e => h (by injection e with e; simpa using e)
    exact beq_eq_false_iff_ne.mpr this
theorem row_cmp {x y : Value} {r r' : Row} (sub : ∀ a o, F a = some o → s.heap.get? a = some o) (hx : Rel F (RowV r) x) (hy : Rel F (RowV r') y) : wpAny (model prog w) A (keyLt' (tuples' true) x y) (fun c s' => c = rowLt r r' ∧ s' = s) E s := by
  obtain ⟨a, t, u, n, rfl, ho⟩ := rel_row hx
  obtain ⟨a', t', u', n', rfl, ho'⟩ := rel_row hy
  refine kat_lt (sub _ _ ho) rfl (sub _ _ ho') rfl ?_
  refine kat_cons (eqBool_str ?_)
  rw [str_eq_iff]
  refine kat_go (fun e1 => kat_yes (kat_cons (wpAny_eqBool_int ?_))) fun e1 => kat_no ?_
  · have e1 : r.1 = r'.1 := by simpa using e1
    refine kat_go (fun e2 => kat_yes (kat_nil ⟨?_, rfl⟩)) fun e2 => kat_no ?_
    · have e2 : r.2 = r'.2 := by simpa using e2
      have : rowLt r r' = false := by
        cases h : rowLt r r' with
        | false => rfl
        | true => rcases (rowLt_iff _ _).mp h with q | q
                  · rw [e1] at q; exact absurd q (List.lt_irrefl _)
                  · (first | lia | omega)
      rw [this]; rfl
    · show wpAny (model prog w) A (oneLt' (true && (1 == 0)) (.int r.2 u) (.int r'.2 u')) _ _ s
      refine kat_one _ _ (P.lt_int ?_)
      refine ⟨?_, rfl⟩
      unfold rowLt; rw [if_pos e1]
  · have e1 : ¬ r.1 = r'.1 := by simpa using e1
    show wpAny (model prog w) A (oneLt' true (.str ⟨r.1.toArray⟩ t) (.str ⟨r'.1.toArray⟩ t')) _ _ s
    refine oneLt_str ⟨?_, rfl⟩
    unfold rowLt; rw [if_neg e1]

theorem rows_tups {h : Heap} (sub : ∀ a o, F a = some o → h.get? a = some o) : ∀ {vs : List Value} {rs : List Row}, RelL F (rs.map RowV) vs → ∃ fs, KatTups h vs fs ∧ fs.length = rs.length ∧ ∀ v ∈ fs, ∃ x t, v = .str x t
  | _, [], rfl => ⟨[], trivial, rfl, fun _ h => nomatch h⟩
  | vs, q :: rs, r => by
    obtain ⟨v, ws, rfl, r1, r⟩ := r
    obtain ⟨a, t, u, n, rfl, ho⟩ := rel_row r1
    obtain ⟨fs, k1, k2, k3⟩ := rows_tups sub r
    refine ⟨.str ⟨q.1.toArray⟩ t :: fs, KatTups.cons (sub _ _ ho) rfl rfl rfl k1, by simp [k2], fun v hv => ?_⟩
    rcases List.mem_cons.mp hv with rfl | hv
    · exact ⟨_, _, rfl⟩
    · exact k3 v hv
theorem rows_kind {vs : List Value} {rs : List Row} (sub : ∀ a o, F a = some o → s.heap.get? a = some o) (r : RelL F (rs.map RowV) vs) (h2 : 2 ≤ rs.length) {Q : SortKind → Shared → Prop} {M : Model} (h : Q (tuples' true) s) : wpAny M A (keyKind' vs.toArray) Q E s := by
  obtain ⟨fs, k1, k2, k3⟩ := rows_tups sub r
  refine kat_kind (T := .type "str") k1 (by (exact a390 h2 k2)) (fun v hv => ?_) rfl h
  obtain ⟨x, t, rfl⟩ := k3 v hv
  exact (show Looks M s.heap (pure (Value.type "str")) (Value.type "str") from .now)
theorem paired_zip : ∀ {vs : List Value} {rs : List Row}, RelL F (rs.map RowV) vs → Paired (fun x r => Rel F (RowV r) x.1 ∧ x.2 = x.1) (vs.zip vs) rs
  | _, [], rfl => .nil
  | _, _ :: _, ⟨_, _, rfl, r1, r⟩ => .cons ⟨r1, rfl⟩ (paired_zip r)
theorem paired_out : ∀ {L : List KRow} {rs : List Row}, Paired (fun x r => Rel F (RowV r) x.1 ∧ x.2 = x.1) L rs → RelL F (rs.map RowV) (L.map (·.2))
  | _, _, .nil => rfl
  | _, _, .cons ⟨h1, h2⟩ t => ⟨_, _, rfl, by show Rel F _ (Prod.snd _); rw [h2]; exact h1, paired_out t⟩
theorem sort_rows {a : Addr} {vs : List Value} {rs : List Row} {n : Nat} {P : Fin → Shared → Prop} (ho : s.heap.get? a = some (seqObj "list" vs.toArray n)) (sub : ∀ b o, F b = some o → s.heap.get? b = some o) (hFa : F a = none) (r : RelL F (rs.map RowV) vs) (hlen : rs.length ≤ 10000)
    (h : ∀ (out : List Value) (rs' : List Row), RelL F (rs'.map RowV) out → rs'.Perm rs → rs'.Pairwise (fun a b => rowLt b a = false) → P (.done (.ret .none)) { s with heap := sortedHeap s.heap a vs out.toArray }) :
    wpAny (model prog w) A (Builtin.«list.sort» ⟨[.ref a], []⟩) P E s := by
  have hl : vs.length = rs.length := by rw [RelL.length r, List.length_map]
  rw [list_sort_plain]
  have ha : a < s.heap.objs.size := Heap.lt_size ho
  refine wpAny_bind (listItems_at ho rfl ?_)
  refine wpAny_bind (listUpdate_at ho rfl ?_ (by rw [List.size_toArray, sizeLine_eq]; (exact a391 hl hlen)) (Nat.zero_le _))
  obtain ⟨e1, ho1⟩ : ∃ e1, (s.heap.update a (Obj.mapSeq fun _ => #[])).get? a = some (seqObj "list" #[] e1) := ⟨_, get?_update_seq ho (fun _ => #[])⟩
  refine wpAny_bind (seqEpoch_at ho1 rfl ?_)
  refine wpAny_bind (wpAny_newTuple ?_ (by show vs.length ≤ _; rw [sizeLine_eq]; (exact a391 hl hlen)))
  refine wpAny_bind (wpAny_newList ?_ (Nat.zero_le _))
  refine wpAny_holding ?_
  have ho6 : (((s.heap.update a (Obj.mapSeq fun _ => #[])).push (seqObj "tuple" vs.toArray 0)).push (seqObj "list" #[] 0)).get? a = some (seqObj "list" #[] e1) := by
    rw [Heap.get?_push_ne _ _ _ (by rw [size_push', Heap.size_update]; exact Nat.ne_of_lt (Nat.lt_succ_of_lt ha)), Heap.get?_push_ne _ _ _ (by rw [Heap.size_update]; exact Nat.ne_of_lt ha)]
    exact ho1
  have sub' : ∀ b o, F b = some o → (((s.heap.update a (Obj.mapSeq fun _ => #[])).push (seqObj "tuple" vs.toArray 0)).push (seqObj "list" #[] 0)).get? b = some o := fun b o e => by
    have hb : b ≠ a := by rintro rfl; exact nomatch hFa.symm.trans e
    refine Heap.get?_push_of_some _ (Heap.get?_push_of_some _ ?_)
    rw [Heap.get?_update_ne _ _ _ _ hb]; exact sub b o e
  show wpAny (model prog w) A _ P E { s with heap := ((s.heap.update a (Obj.mapSeq fun _ => #[])).push (seqObj "tuple" vs.toArray 0)).push (seqObj "list" #[] 0) }
  dsimp only
  have hsz : vs.toArray.size = vs.length := by simp
  by_cases h2 : vs.toArray.size < 2
  · rw [if_pos h2, if_pos h2]
    refine wpAny_bind (wpAny_pure ?_)
    rw [StateT.run_pure]
    refine wpAny_bind (wpAny_pure ?_)
    dsimp only
    refine wpAny_bind (seqEpoch_at ho6 rfl ?_)
    refine wpAny_bind (listUpdate_at ho6 rfl ?_ (Nat.zero_le _) (hsz2 := by rw [Array.size_map]; show (vs.toArray.zip vs.toArray).size ≤ _; rw [sizeLine_eq]; simp; (exact a394 h2)))
    simp only [bne_self_eq_false, Bool.false_eq_true, if_false]
    have hz : ((vs.toArray.zip vs.toArray).map (·.2)) = vs.toArray := by
      apply Array.ext'
      simp
      rw [List.map_snd_zip (by (exact a19 ))]
    refine wpAny_pure ?_
    have := h vs rs r (.refl _) (by
      match rs, hl with
      | [], _ => exact .nil
      | [_], _ => exact List.pairwise_singleton ..
      | _ :: _ :: _, hl => simp at hl; (exact (a398 h2 hl).elim))
    show P _ { s with heap := sortedHeap s.heap a vs ((vs.toArray.zip vs.toArray).map (·.2)) }
    rw [hz]; exact this
  · rw [if_neg h2, if_neg h2]
    refine wpAny_bind (rows_kind (s := { s with heap := ((s.heap.update a (Obj.mapSeq fun _ => #[])).push (seqObj "tuple" vs.toArray 0)).push (seqObj "list" #[] 0) }) sub' r (by (exact a401 hl h2)) ?_)
    have hz : vs.toArray.zip vs.toArray = (vs.zip vs).toArray := by apply Array.ext'; simp
    rw [hz]
    refine wpAny_bind (wpAny_mono (sort_core (κ := tuples' true) (lo := rowLt) (J := fun x r => Rel F (RowV r) x.1 ∧ x.2 = x.1) rowLt_swo (fun x q q' h1 h2 => row_inj h1.1 h2.1)
      (fun x y q q' h1 h2 => row_cmp (s := { s with heap := ((s.heap.update a (Obj.mapSeq fun _ => #[])).push (seqObj "tuple" vs.toArray 0)).push (seqObj "list" #[] 0) }) sub' h1.1 h2.1) (paired_zip r) (by simp; (exact a402 h2))
      (Q := fun _ st' => failedOf st' = none ∧ ∃ L' rs', arrOf st' = L'.toArray ∧ Paired (fun x r => Rel F (RowV r) x.1 ∧ x.2 = x.1) L' rs' ∧ rs'.Perm rs ∧ rs'.Pairwise (fun a b => rowLt b a = false)) fun st' L' rs' k1 k2 k3 k4 k5 => ⟨k1, L', rs', k2, k3, k4, k5⟩) ?_ fun _ _ e => e)
    rintro ⟨⟨⟩, st'⟩ s' ⟨rfl, hf, L', rs', k2, k3, k4, k5⟩
    dsimp only
    have hzz : (arrOf st').map (·.2) = (L'.map (·.2)).toArray := by rw [k2]; simp
    have hlen' : (L'.map (·.2)).length = rs.length := by rw [(paired_out k3).length, List.length_map, k4.length_eq]
    refine wpAny_bind (seqEpoch_at ho6 rfl ?_)
    refine wpAny_bind (listUpdate_at ho6 rfl ?_ (Nat.zero_le _) (hsz2 := by show ((arrOf st').map (·.2)).size ≤ _; rw [hzz, List.size_toArray, hlen', sizeLine_eq]; (exact a403 hlen)))
    rw [hf]
    simp only [bne_self_eq_false, Bool.false_eq_true, if_false]
    refine wpAny_pure ?_
    show P _ { s with heap := sortedHeap s.heap a vs ((arrOf st').map (·.2)) }
    rw [hzz]
    exact h _ rs' (paired_out k3) k4 k5
theorem sorted_rows {l : Addr} {vs : List Value} {rs : List Row} {Q : Value → Shared → Prop} (hl : s.heap.IsList l vs.toArray) (sub : ∀ b o, F b = some o → s.heap.get? b = some o) (r : RelL F (rs.map RowV) vs) (hlen : rs.length ≤ 10000)
    (h : ∀ (out : List Value) (rs' : List Row), RelL F (rs'.map RowV) out → rs'.Perm rs → rs'.Pairwise (fun a b => rowLt b a = false) → Q (.ref (s.heap.objs.size + 1)) { s with heap := sortedAll s.heap vs out.toArray }) :
    wpAny (model prog w) A (call (.builtin "sorted") [.ref l]) Q E s := by
  have hl' : vs.length = rs.length := by rw [RelL.length r, List.length_map]
  refine Calls.call_function_entry kind_sorted plain_sorted entry_sorted (args_sorted1 _) ?_
  unfold Builtin.«sorted»
  refine wpAny_bind (m := checkCount "sorted" 1 1 _) (wpAny_pure ?_)
  refine wpAny_bind (collect_list hl ?_ (by rw [sizeLine_eq]; (exact a391 hl' hlen)))
  refine wpAny_bind (wpAny_newList ?_ (by rw [sizeLine_eq]; (exact a391 hl' hlen)))
  have hsz : ((s.heap.push (seqObj "list" #[] 0)).update s.heap.objs.size (Obj.mapSeq (· ++ vs.toArray))).objs.size = s.heap.objs.size + 1 := by
    rw [Heap.size_update, size_push']
  have hoL : (((s.heap.push (seqObj "list" #[] 0)).update s.heap.objs.size (Obj.mapSeq (· ++ vs.toArray))).push (seqObj "list" vs.toArray 0)).get? (s.heap.objs.size + 1) = some (seqObj "list" vs.toArray 0) := by
    rw [← hsz]; exact Heap.get?_push_size _ rfl
  have hFn : F (s.heap.objs.size + 1) = none := by
    cases q : F (s.heap.objs.size + 1) with
    | none => rfl
    | some o => exact absurd (Heap.lt_size (sub _ _ q)) (Nat.not_lt.mpr (Nat.le_succ _))
  have keep : ∀ b o, s.heap.get? b = some o → (((s.heap.push (seqObj "list" #[] 0)).update s.heap.objs.size (Obj.mapSeq (· ++ vs.toArray))).push (seqObj "list" vs.toArray 0)).get? b = some o := fun b o q => by
    have hlt : b < s.heap.objs.size := Heap.lt_size q
    rw [Heap.get?_push_ne _ _ _ (by rw [hsz]; exact Nat.ne_of_lt (Nat.lt_succ_of_lt hlt)), Heap.get?_update_ne _ _ _ _ (Nat.ne_of_lt hlt), Heap.get?_push_ne _ _ _ (Nat.ne_of_lt hlt)]
    exact q
  show wpAny _ _ _ _ _ { s with heap := ((s.heap.push (seqObj "list" #[] 0)).update s.heap.objs.size (Obj.mapSeq (· ++ vs.toArray))).push (seqObj "list" vs.toArray 0) }
  rw [hsz]
  refine wpAny_bind (wpAny_holding (wpAny_call_entry slot_list_sort ⟨_, hoL, rfl⟩ entry_list_sort (sort_rows (s := { s with heap := ((s.heap.push (seqObj "list" #[] 0)).update s.heap.objs.size (Obj.mapSeq (· ++ vs.toArray))).push (seqObj "list" vs.toArray 0) }) hoL (fun b o e => keep b o (sub b o e)) hFn r hlen fun out rs' a1 a2 a3 => ⟨_, rfl, ?_⟩) (args_list_sort _)))
  exact wpAny_pure ⟨_, rfl, h out rs' a1 a2 a3⟩
end
end Mine

set_option autoImplicit false
set_option linter.all false
set_option genSizeOf false
set_option genInjectivity false
set_option maxRecDepth 100000
namespace Mine
open PySem PyProof.Rows

/-! ## statements: the frame's own state -/
def Own (env : Env) (b : Addr) : Prop := b = env.locals ∨ ∃ x, (x, b) ∈ env.cells
def Dm (env : Env) (σ : Ow) (b : Addr) : Prop := Own env b ∨ ∃ xs, σ b = some xs
structure FOk (G : Gl) (K : Sx) (A : Around) (env : Env) (ρ : List V) (σ : Ow) (F : Fz) (s : Shared) : Prop where
  e : EOk G K A env ρ σ F s
  top : ∃ outer, A.frames = some (env :: outer)
  apart : env.cells.Pairwise fun x y => x.2 ≠ y.2
  nodup : K.ns.Nodup
  own : ∀ x c, (x, c) ∈ env.cells → (∃ ov, s.heap.IsCell c ov) ∧ F c = none
structure Lk (env : Env) (σ : Ow) (F : Fz) (s : Shared) (σ' : Ow) (F' : Fz) (s' : Shared) : Prop where
  S : St (Dm env σ) F s F' s'
  d : ∀ b xs, σ' b = some xs → (∃ ys, σ b = some ys) ∨ s.heap.get? b = none
inductive Fl where
  | next
  | ret (v : V)
def FlRel (F : Fz) : Flow → Fl → Prop
  | .next, .next => True
  | .ret v, .ret x => Rel F x v
  | _, _ => False
abbrev KS := Fl → List V → Ow → Prop
inductive PS (G : Gl) (K : Sx) (A : Around) (env : Env) (σ : Ow) (F : Fz) (s : Shared) (Q : KS) (f : Flow) (s' : Shared) : Prop
  | mk (fl : Fl) (ρ' : List V) (σ' : Ow) (F' : Fz) (hf : FlRel F' f fl) (k : FOk G K A env ρ' σ' F' s') (L : Lk env σ F s σ' F' s') (q : Q fl ρ' σ')
def WS (G : Gl) (K : Sx) (ss : List Stmt) (ρ : List V) (σ : Ow) (Q : KS) : Prop :=
  ∀ A env F s E, FOk G K A env ρ σ F s → wpAny G.M A (execs ss env) (PS G K A env σ F s Q) E s
def WS1 (G : Gl) (K : Sx) (st : Stmt) (ρ : List V) (σ : Ow) (Q : KS) : Prop :=
  ∀ A env F s E, FOk G K A env ρ σ F s → wpAny G.M A (exec st env) (PS G K A env σ F s Q) E s

def Kc (G : Gl) (K : Sx) (ss : List Stmt) (Q : KS) : KS := fun f ρ σ => match f with | .next => WS G K ss ρ σ Q | .ret x => Q (.ret x) ρ σ
section
variable {G : Gl} {K : Sx} {A : Around} {env : Env} {ρ ρ₁ : List V} {σ σ₁ σ₂ : Ow} {F F₁ F₂ : Fz} {s s₁ s₂ : Shared} {E : Value → Shared → Prop} {Q : KS} {e c : PySem.Expr} {ss : List Stmt} {st : Stmt} {x : V} {p q : Pos} {b : Bool}
theorem FOk.step (k : FOk G K A env ρ σ F s) (S : St N0 F s F₁ s₁) : FOk G K A env ρ σ F₁ s₁ :=
  ⟨k.e.step S, k.top, k.apart, k.nodup, fun x c hc => (k.own x c hc).elim fun h1 h2 => ⟨h1.imp fun _ h => h.imp fun _ h => ⟨S.keep _ _ h.1 id (fun _ _ e => nomatch h.2.symm.trans e), h.2⟩, h1.elim fun _ h => h.elim fun _ h => S.out h2 h.1⟩⟩
theorem Lk.trans (x : Lk env σ F s σ₁ F₁ s₁) (y : Lk env σ₁ F₁ s₁ σ₂ F₂ s₂) : Lk env σ F s σ₂ F₂ s₂ :=
  ⟨⟨fun a o e => y.S.up a o (x.S.up a o e), y.S.sub, fun b o e d => (x.S.keepO b o e d).elim fun o' r => (y.S.keepO b o' r.1 fun q => q.elim (fun q => d (.inl q)) fun q => q.elim fun xs q => (x.d b xs q).elim (fun q => d (.inr q)) fun q => (nomatch e.symm.trans q)).imp fun _ t => ⟨t.1, r.2.trans t.2⟩,
    fun b o e => (x.S.live b o e).elim fun o' e' => (y.S.live b o' e'.1).imp fun _ r => ⟨r.1, e'.2.trans r.2⟩, fun b o e => (y.S.new b o e).elim (x.S.new b o) fun q => .inr (x.S.dead q), by rw [y.S.rest, x.S.rest]⟩,
   fun b xs q => (y.d b xs q).elim (fun q => q.elim fun ys q => x.d b ys q) fun q => .inr (x.S.dead q)⟩
theorem St.lk (S : St N0 F s F₁ s₁) : Lk env σ F s σ F₁ s₁ := ⟨S.any, fun _ xs q => .inl ⟨xs, q⟩⟩
theorem PS.from {f : Flow} {s' : Shared} (L : Lk env σ F s σ₁ F₁ s₁) (h : PS G K A env σ₁ F₁ s₁ Q f s') : PS G K A env σ F s Q f s' :=
  h.casesOn fun fl ρ' σ' F' hf k L' q => ⟨fl, ρ', σ', F', hf, k, L.trans L', q⟩
theorem ws_from {M : Model} {t : Sem Flow} (L : Lk env σ F s σ₁ F₁ s₁) (h : wpAny M A t (PS G K A env σ₁ F₁ s₁ Q) E s₁) : wpAny M A t (PS G K A env σ F s Q) E s₁ := wpAny_mono h (fun _ _ q => q.from L) fun _ _ e => e
theorem FOk.here (k : FOk G K A env ρ σ F s) (h : Q .next ρ σ) : PS G K A env σ F s Q .next s := ⟨.next, ρ, σ, F, trivial, k, (St.refl k.e.rm.sub).lk, h⟩

/-- an object that is not frozen is changed, or a new one comes -/
theorem St.change {D : Addr → Prop} {q : Addr} {h' : Heap} {t : Nat} (sub : ∀ a o, F a = some o → s.heap.get? a = some o) (hq : F q = none) (hD : D q ∨ s.heap.get? q = none) (hs : Heap.ExtBut q s.heap h') (hl : ∃ o', h'.get? q = some o' ∧ ∀ o, s.heap.get? q = some o → DK o o') : St D F s F { s with heap := h', toks := t } :=
  ⟨fun _ _ e => e, fun a o e => hs a o (by rintro rfl; exact nomatch hq.symm.trans e) (sub a o e), fun b o e d => ⟨o, hs b o (by rintro rfl; exact hD.elim d fun q => nomatch e.symm.trans q) e, .inl rfl⟩,
    fun b o e => (Classical.em (b = q)).elim (fun h => by subst h; exact hl.imp fun _ t => ⟨t.1, t.2 o e⟩) fun h => ⟨o, hs b o h e, .refl o⟩, fun _ _ e => .inl e, rfl⟩
theorem set_get {i j : Nat} {x w : V} (h : (ρ.set i x)[j]? = some w) : (j = i ∧ w = x) ∨ (j ≠ i ∧ ρ[j]? = some w) := by
  by_cases hj : j = i
  · subst hj
    rw [List.getElem?_set_self'] at h
    cases e : ρ[j]? with
    | none => rw [e] at h; cases h
    | some v => rw [e] at h; cases h; exact .inl ⟨rfl, rfl⟩
  · rw [List.getElem?_set_ne (fun e => hj e.symm)] at h; exact .inr ⟨hj, h⟩
theorem ns_inj {ns : List Str} {i j : Nat} {x : Str} (hn : ns.Nodup) (hi : ns[i]? = some x) (hj : ns[j]? = some x) : i = j := by
  obtain ⟨a, ha⟩ := List.getElem?_eq_some_iff.mp hi
  obtain ⟨b, hb⟩ := List.getElem?_eq_some_iff.mp hj
  have hp := List.pairwise_iff_getElem.mp hn
  rcases Nat.lt_trichotomy i j with h | h | h
  · exact absurd (ha.trans hb.symm) (hp i j a b h)
  · exact h
  · exact absurd (hb.trans ha.symm) (hp j i b a h)
/-- other objects than the frame's own are changed -/
theorem FOk.others {D : Addr → Prop} {h' : Heap} {t : Nat} {σ' : Ow} (k : FOk G K A env ρ σ F s) (hD : ∀ q, D q → F q = none ∧ ¬ Own env q ∧ NoFr A q) (up : ∀ b o, ¬ D b → s.heap.get? b = some o → h'.get? b = some o)
    (hσ : ∀ a xs, σ' a = some xs → F a = none ∧ ∃ vs n, h'.get? a = some (lobj vs n) ∧ RelL F xs vs) : FOk G K A env ρ σ' F { s with heap := h', toks := t } :=
  ⟨⟨⟨k.e.rm.go, k.e.rm.base, fun a o e => up a o (fun h => nomatch (hD a h).1.symm.trans e) (k.e.rm.sub a o e), k.e.rm.depth, k.e.rm.units, k.e.rm.handled, k.e.rm.frs fun L hL hF t => ⟨hF, t.imp fun o t => t.imp fun _ t => t.imp fun _ t => ⟨up L o (fun h => hL (hD L h).2.2) t.1, t.2⟩⟩⟩, k.e.sc, k.e.kind, k.e.globals, k.e.builtins, hσ,
    ⟨k.e.loc.len, k.e.loc.out, k.e.loc.vars.imp fun m r => ⟨ns_keep r.1 fun o e => up _ o (fun h => (hD _ h).2.1 (.inl rfl)) e, fun i x v hx hv => ⟨(r.2 i x v hx hv).1, fun hk => ((r.2 i x v hx hv).2 hk).imp fun c u => u.imp fun ov u =>
      ⟨u.1, u.2.1.imp fun oc w => ⟨up _ _ (fun h => (hD _ h).2.1 (.inr ⟨x, mem_of_lookup u.1⟩)) w.1, w.2⟩, u.2.2⟩⟩⟩⟩⟩,
   k.top, k.apart, k.nodup, fun x c hc => (k.own x c hc).elim fun h1 h2 => ⟨h1.imp fun _ h => h.imp fun _ h => ⟨up _ _ (fun h => (hD _ h).2.1 (.inr ⟨x, hc⟩)) h.1, h.2⟩, h2⟩⟩
theorem FOk.other {q : Addr} {h' : Heap} {t : Nat} {σ' : Ow} (k : FOk G K A env ρ σ F s) (hq : F q = none) (hs : Heap.ExtBut q s.heap h') (hn : ¬ Own env q) (hf : NoFr A q)
    (hσ : ∀ a xs, σ' a = some xs → F a = none ∧ ∃ vs n, h'.get? a = some (lobj vs n) ∧ RelL F xs vs) : FOk G K A env ρ σ' F { s with heap := h', toks := t } :=
  k.others (D := (· = q)) (fun _ e => e ▸ ⟨hq, hn, hf⟩) (fun b o h e => hs b o h e) hσ
theorem FOk.notOwn {q : Addr} {o : Obj} (k : FOk G K A env ρ σ F s) (ho : s.heap.get? q = some o) (h1 : ∀ es n, o.data ≠ .dict es n) (h2 : ∀ v, o.data ≠ .cell v) : ¬ Own env q := by
  rintro (rfl | ⟨x, hx⟩)
  · obtain ⟨mm, ⟨o', es, ep, e, hd, _⟩, _⟩ := k.e.loc.vars
    rw [ho] at e; cases e; exact h1 _ _ hd
  · obtain ⟨⟨ov, o', e, hd⟩, _⟩ := k.own x q hx
    rw [ho] at e; cases e; exact h2 _ hd
theorem relO_some {v : Value} (r : Rel F x v) : RelO F x (some v) := fun _ => ⟨v, rfl, r⟩
/-- storing a name of the frame -/
theorem store_ok {n : Str} {i : Nat} {v : Value} {R : Unit → Shared → Prop} (k : FOk G K A env ρ σ F s) (hx : nameOK K i n = true) (r : Rel F x v)
    (h : ∀ h' t, FOk G K A env (ρ.set i x) σ F { s with heap := h', toks := t } → Lk env σ F s σ F { s with heap := h', toks := t } → (∀ b o, ¬ Own env b → s.heap.get? b = some o → h'.get? b = some o) → R () { s with heap := h', toks := t }) : wpAny G.M A (storeName env n v) R E s := by
  obtain ⟨mm, hn, vars⟩ := k.e.loc.vars
  obtain ⟨hx, hk, _⟩ := nameOK_inv hx
  obtain ⟨o, es, ep, ho, hd, hr⟩ := id hn
  -- the parts that both ways share: q is the object that changes
  have fin : ∀ (q : Addr) (oq : Obj) (h' : Heap) (t : Nat), s.heap.get? q = some oq → F q = none → (∀ xs n, oq ≠ lobj xs n) → Own env q → Heap.SameBut q s.heap h' → (∃ o', h'.get? q = some o' ∧ ∀ o, s.heap.get? q = some o → DK o o') → (∃ m, h'.Ns env.locals m ∧ ∀ (j : Nat) (y : Str) (w : V), K.ns[j]? = some y → (ρ.set i x)[j]? = some w →
      (K.sc.names.lookup y = some .local → RelO F w (m y)) ∧ (K.sc.names.lookup y = some .cell → ∃ c ov, env.cells.lookup y = some c ∧ h'.IsCell c ov ∧ RelO F w ov ∧ F c = none)) →
      (∀ x c, (x, c) ∈ env.cells → ∃ ov, h'.IsCell c ov) → R () { s with heap := h', toks := t } := fun q oq h' t hq hF hl ho hs hv hvars hcells =>
    h h' t ⟨⟨⟨k.e.rm.go, k.e.rm.base, fun a o e => hs.extBut a o (by rintro rfl; exact nomatch hF.symm.trans e) (k.e.rm.sub a o e), k.e.rm.depth, k.e.rm.units, k.e.rm.handled, k.e.rm.frs fun L _ hL t => ⟨hL, t.elim fun o t => t.elim fun es t => t.elim fun n t => (Classical.em (L = q)).elim (fun e => by subst e; exact hv.imp fun _ u => (u.2 o t.1 es n t.2).imp fun _ w => w.imp fun _ w => ⟨u.1, w⟩) fun e => ⟨o, es, n, hs.extBut L o e t.1, t.2⟩⟩⟩, k.e.sc, k.e.kind, k.e.globals, k.e.builtins,
        fun a xs q => (k.e.own a xs q).elim fun h1 h2 => ⟨h1, h2.imp fun vs h2 => h2.imp fun n h2 => ⟨hs.extBut a _ (by rintro rfl; exact hl _ _ (Option.some.inj (hq.symm.trans h2.1))) h2.1, h2.2⟩⟩,
        ⟨by rw [List.length_set]; exact k.e.loc.len, k.e.loc.out, hvars⟩⟩, k.top, k.apart, k.nodup, fun x c hc => ⟨hcells x c hc, (k.own x c hc).2⟩⟩
      ⟨St.change k.e.rm.sub hF (.inl (.inl ho)) hs.extBut hv, fun b xs q => .inl ⟨xs, q⟩⟩ fun b o hb e => hs.extBut b o (by rintro rfl; exact hb ho) e
  rcases hk with hk | hk
  · refine wpAny_storeName_local ((kindOf_eq k.e n).trans hk) hn (fun h' hn' hs' => ?_) (by rw [k.e.kind]; rfl)
    refine fin env.locals o h' (s.toks + 1) ho k.e.loc.out (fun xs n e => by rw [e] at hd; cases hd) (.inl rfl) hs' (hn'.imp fun _ t => t.elim fun _ t => t.elim fun _ t => ⟨t.1, fun _ _ _ _ _ => ⟨_, _, t.2.1⟩⟩) ⟨_, hn', fun j y w hy hw => ?_⟩ fun x c hc => (k.own x c hc).1.imp fun ov h => h.sameBut hs' ?_
    · rcases set_get hw with ⟨rfl, rfl⟩ | ⟨hj, hw⟩
      · cases hy.symm.trans hx
        exact ⟨fun _ => by rw [if_pos rfl]; exact relO_some r, fun hc => nomatch hk.symm.trans hc⟩
      · have hne : y ≠ n := by rintro rfl; exact hj (ns_inj k.nodup hy hx)
        refine ⟨fun hl => by rw [if_neg hne]; exact (vars j y w hy hw).1 hl, fun hc => ((vars j y w hy hw).2 hc).imp fun c u => u.imp fun ov u => ⟨u.1, u.2.1.sameBut hs' ?_, u.2.2⟩⟩
        rintro rfl; obtain ⟨oc, hoc, hdc⟩ := u.2.1; rw [ho] at hoc; cases hoc; rw [hd] at hdc; cases hdc
    · rintro rfl; obtain ⟨oc, hoc, hdc⟩ := h; rw [ho] at hoc; cases hoc; rw [hd] at hdc; cases hdc
  · have hi : i < ρ.length := by rw [k.e.loc.len]; exact (List.getElem?_eq_some_iff.mp hx).1
    obtain ⟨c, ov, h1, h2, h3, h4⟩ := (vars i n _ hx (List.getElem?_eq_getElem hi)).2 hk
    refine wpAny_storeName_cell k.e.kind ((kindOf_eq k.e n).trans hk) h1 h2 fun h' hn' hs' => ?_
    obtain ⟨oc, hoc, hdc⟩ := id h2
    have hcl : env.locals ≠ c := by rintro rfl; rw [ho] at hoc; cases hoc; rw [hd] at hdc; cases hdc
    refine fin c oc h' s.toks hoc h4 (fun xs n e => by rw [e] at hdc; cases hdc) (.inr ⟨n, mem_of_lookup h1⟩) hs' (hn'.imp fun _ h => ⟨h.1, fun o e es n t => by cases hoc.symm.trans e; exact nomatch hdc.symm.trans t⟩) ⟨mm, hn.sameBut hs' hcl, fun j y w hy hw => ?_⟩ fun x d hc => ?_
    · rcases set_get hw with ⟨rfl, rfl⟩ | ⟨hj, hw⟩
      · cases hy.symm.trans hx
        exact ⟨fun hl => (nomatch hk.symm.trans hl), fun _ => ⟨c, some v, h1, hn', relO_some r, h4⟩⟩
      · have hne : y ≠ n := by rintro rfl; exact hj (ns_inj k.nodup hy hx)
        refine ⟨(vars j y w hy hw).1, fun hc => ((vars j y w hy hw).2 hc).imp fun c' u => u.imp fun ov u => ⟨u.1, u.2.1.sameBut hs' ?_, u.2.2⟩⟩
        rintro rfl; exact hne (name_of_addr k.apart (mem_of_lookup u.1) (mem_of_lookup h1))
    · exact (Classical.em (d = c)).elim (fun e => e ▸ ⟨_, hn'⟩) fun e => (k.own x d hc).1.imp fun _ h => h.sameBut hs' e

/-! ## rules -/
theorem ws_nil (h : Q .next ρ σ) : WS G K [] ρ σ Q := fun A env F s E k => wpAny_execs_nil (k.here h)
theorem ws_cons (h1 : WS1 G K st ρ σ (Kc G K ss Q)) : WS G K (st :: ss) ρ σ Q := fun A env F s E k =>
  wpAny_execs_cons (wpAny_mono (h1 A env F s E k) (fun f s₁ h => h.casesOn fun fl ρ' σ' F' hf k' L q => by
    cases f <;> cases fl <;> first | exact hf.elim | skip
    · exact ws_from L (q A env F' s₁ E k')
    · exact ⟨_, ρ', σ', F', hf, k', L, q⟩) fun _ _ e => e)
theorem ws_asg (i : Nat) {n : Str} (h1 : Ev G K ρ σ e x) (h2 : WS G K ss (ρ.set i x) σ Q) (hx : nameOK K i n = true := by decide +kernel) (hsw : ∀ env, env.scope = K.sc → swapsWith e (some (.Name n q)) p.line env = pure false := by intros; rfl) : WS G K (.Assign [.Name n q] e p :: ss) ρ σ Q :=
  ws_cons fun A env F s E k => wpAny_Assign_Name (h1.bind k.e fun v F₁ s₁ S r k₁ => store_ok (k.step S) hx r fun h' t k₂ L _ => ⟨.next, _, σ, F₁, trivial, k₂, (St.lk S).trans L, h2⟩) (hsw env k.e.sc)
theorem ws_ret (h1 : Ev G K ρ σ e x) (h : Q (.ret x) ρ σ) : WS G K (.Return (some e) p :: ss) ρ σ Q :=
  ws_cons fun A env F s E k => wpAny_Return_some (h1.bind k.e fun v F₁ s₁ S r k₁ => ⟨.ret x, ρ, σ, F₁, r, k.step S, S.lk, h⟩)
theorem ws_retN (h : Q (.ret .none) ρ σ) : WS G K (.Return none p :: ss) ρ σ Q :=
  ws_cons fun A env F s E k => wpAny_Return_none ⟨.ret .none, ρ, σ, F, rfl, k, (St.refl k.e.rm.sub).lk, h⟩
theorem ws_if {a b' : List Stmt} (h1 : Tr G K ρ σ c b) (ht : b = true → WS G K a ρ σ (Kc G K ss Q))
    (hf : b = false → WS G K b' ρ σ (Kc G K ss Q)) : WS G K (.If c a b' p :: ss) ρ σ Q :=
  ws_cons fun A env F s E k => wpAny_If (h1.bind k.e fun F₁ s₁ S k₁ => by
    cases b
    · exact ws_from S.lk (hf rfl A env F₁ s₁ E (k.step S))
    · exact ws_from S.lk (ht rfl A env F₁ s₁ E (k.step S)))
theorem ws_mono {Q' : KS} (h : WS G K ss ρ σ Q) (hq : ∀ f ρ σ, Q f ρ σ → Q' f ρ σ) : WS G K ss ρ σ Q' := fun A env F s E k =>
  wpAny_mono (h A env F s E k) (fun _ _ q => q.casesOn fun fl ρ' σ' F' hf k' L q => ⟨fl, ρ', σ', F', hf, k', L, hq _ _ _ q⟩) fun _ _ e => e
def Kp (P : List V → Ow → Prop) (Q : KS) : KS := fun f ρ σ => match f with | .next => P ρ σ | .ret x => Q (.ret x) ρ σ
/-- a branch whose ways meet again -/
theorem ws_ifm (P : List V → Ow → Prop) {a b' : List Stmt} (h1 : Tr G K ρ σ c b) (ht : b = true → WS G K a ρ σ (Kp P Q)) (hf : b = false → WS G K b' ρ σ (Kp P Q)) (h : ∀ ρ σ, P ρ σ → WS G K ss ρ σ Q) : WS G K (.If c a b' p :: ss) ρ σ Q :=
  have m : ∀ f ρ σ, Kp P Q f ρ σ → Kc G K ss Q f ρ σ := fun f ρ σ q => by cases f; exact h ρ σ q; exact q
  ws_if h1 (fun e => ws_mono (ht e) m) fun e => ws_mono (hf e) m
end
end Mine

set_option autoImplicit false
set_option linter.all false
set_option genSizeOf false
set_option genInjectivity false
set_option maxRecDepth 100000
namespace Mine
open PySem PyProof.Rows

/-! ## while -/
def Kl (I : Nat → List V → Ow → Prop) (n : Nat) (Q : KS) : KS := fun f ρ σ => match f with | .next => ∃ k, k < n ∧ I k ρ σ | .ret x => Q (.ret x) ρ σ
def Kf (I : Nat → List V → Ow → Prop) (n : Nat) (Q : KS) : KS := fun f ρ σ => match f with | .next => I n ρ σ | .ret x => Q (.ret x) ρ σ
section
variable {G : Gl} {K : Sx} {A : Around} {env : Env} {ρ ρ₁ : List V} {σ σ₀ σ₁ σ₂ : Ow} {F F₀ F₁ F₂ : Fz} {s s₀ s₁ s₂ : Shared} {E : Value → Shared → Prop} {Q : KS} {e c t : PySem.Expr} {ss body : List Stmt} {st : Stmt} {x y z : V} {p q : Pos} {b : Bool} {xs ys : List V}
theorem ws_while (I : Nat → List V → Ow → Prop) (n : Nat) (h0 : I n ρ σ) (turn : ∀ n ρ σ, I n ρ σ → ∃ b, Tr G K ρ σ c b ∧ (b = true → WS G K body ρ σ (Kl I n Q)) ∧ (b = false → WS G K ss ρ σ Q)) : WS G K (.While c body [] p :: ss) ρ σ Q :=
  ws_cons fun A env F s E k => wpAny_While (codeAny_whileLoop (fun m s' => ∃ ρ' σ' F', FOk G K A env ρ' σ' F' s' ∧ Lk env σ F s σ' F' s' ∧ I m ρ' σ') (by
    rintro m s' ⟨ρ', σ', F', k', L', hI⟩
    obtain ⟨b, h1, h2, h3⟩ := turn m ρ' σ' hI
    refine h1.bind k'.e fun F₁ s₁ S k₁ => ?_
    cases b
    · exact wpAny_execs_nil ⟨.next, ρ', σ', F₁, trivial, k'.step S, L'.trans S.lk, h3 rfl⟩
    · refine wpAny_mono (h2 rfl A env F₁ s₁ _ (k'.step S)) (fun f s₂ h => h.casesOn fun fl ρ₂ σ₂ F₂ hf k₂ L₂ q => ?_) fun _ _ e => e
      cases f <;> cases fl <;> first | exact hf.elim | skip
      · exact q.imp fun _ q => ⟨q.1, ρ₂, σ₂, F₂, k₂, (L'.trans S.lk).trans L₂, q.2⟩
      · exact ⟨_, ρ₂, σ₂, F₂, hf, k₂, (L'.trans S.lk).trans L₂, q⟩) n ⟨ρ, σ, F, k, (St.refl k.e.rm.sub).lk, h0⟩)

/-! ## iterators -/
def ownTs : List String := ["enumerate", "zip", "dict_itemiterator", "dict_reverseitemiterator", "odict_iterator", "itertools.zip_longest", "itertools.pairwise"]
def itemsOf : V → Option (List V)
  | .tup xs | .lst xs | .scr xs => some xs
  | .rng a b => some ((List.range (b - a).toNat).map fun (i : Nat) => V.int (a + (i : Int)))
  | .str s => some (s.map fun c => .str [c])
  | _ => none
structure It (G : Gl) (A : Around) (F : Fz) (it : Addr) (xs : List V) (P : Nat → Heap → Prop) : Prop where
  keep : ∀ i h h', P i h → (∀ a o, F a = some o → h.get? a = some o) → (∀ a o, F a = some o → h'.get? a = some o) → (∀ o, h.get? it = some o → h'.get? it = some o) → P i h'
  item : ∀ (i : Nat) s Q E y, xs[i]? = some y → P i s.heap → (∀ v h' tk, Rel F y v → P (i + 1) h' → Heap.ExtBut it s.heap h' → Q (some v) { s with heap := h', toks := tk }) → wpAny G.M A (pyNext (.ref it)) Q E s
  done : ∀ s Q E, P xs.length s.heap → (∀ h' tk, Heap.ExtBut it s.heap h' → Q none { s with heap := h', toks := tk }) → wpAny G.M A (pyNext (.ref it)) Q E s
  self : ∀ i s Q E, P i s.heap → Q (.ref it) s → wpAny G.M A (pyIter (.ref it)) Q E s
  obj : ∀ i h, P i h → ∃ o T vs, h.get? it = some o ∧ o.cls = .type T ∧ o.data = .fields vs ∧ ownTs.contains T = false
theorem it_of {it : Addr} {fp : List Addr} {n : Nat} {P : Nat → Value → Prop} {T : Nat → Heap → Prop} (W : Walks G.prog G.w A it fp [it] n P T) (hn : xs.length = n) (hfp : ∀ b ∈ fp, b ≠ it → ∃ o, F b = some o)
    (hP : ∀ (i : Nat) y v, xs[i]? = some y → P i v → Rel F y v) (hobj : ∀ i h, T i h → ∃ o T vs, h.get? it = some o ∧ o.cls = .type T ∧ o.data = .fields vs ∧ ownTs.contains T = false) : It G A F it xs T where
  keep i h h' t h1 h2 h3 := W.frame i h h' t fun b hb o e => (Classical.em (b = it)).elim (fun q => by subst q; exact h3 o e) fun q => (hfp b hb q).elim fun o' e' => (e.symm.trans (h1 b o' e')) ▸ h2 b o' e'
  item i s Q E y hy t k := W.item i s Q E (hn ▸ (List.getElem?_eq_some_iff.mp hy).1) t fun v h' tk hp t' hk => k v h' tk (hP i y v hy hp) t' fun b o hb e => hk b o (fun q => hb (List.mem_singleton.mp q)) e
  done s Q E t k := W.done s Q E (hn ▸ t) fun h' tk hk => k h' tk fun b o hb e => hk b o (fun q => hb (List.mem_singleton.mp q)) e
  self := W.self
  obj := hobj
theorem iter_ok {v : Value} {R : Value → Shared → Prop} (hi : itemsOf x = some xs) (k : Rm G A F s) (r : Rel F x v)
    (h : ∀ ob P, It G A F s.heap.objs.size xs P → P 0 (s.heap.push ob) → R (.ref s.heap.objs.size) { s with heap := s.heap.push ob }) : wpAny G.M A (pyIter v) R E s := by
  have ne : ∀ {a : Addr} {o : Obj}, F a = some o → a ≠ s.heap.objs.size := fun e => by rintro rfl; exact nomatch (size_none s.heap).symm.trans (k.sub _ _ e)
  have one : ∀ {a it : Addr} {o : Obj}, F a = some o → ∀ b ∈ [it, a], b ≠ it → ∃ o, F b = some o := fun e b hb hn => by
    rcases List.mem_cons.mp hb with q | q
    · exact absurd q hn
    · cases List.mem_singleton.mp q; exact ⟨_, e⟩
  have lst : ∀ {a : Addr} {o : Obj} {vs : List Value}, F a = some o → (o.cls = .type "list" ∧ ∃ n, o.data = .seq vs.toArray n) → RelL F xs vs → wpAny G.M A (pyIter (.ref a)) R E s := fun {a o vs} e q rl =>
    have hl : s.heap.IsList a vs.toArray := ⟨o, k.sub _ _ e, q⟩
    wpAny_pyIter_list hl (h _ _ (it_of (Walks.list k.handled _ a (ne e) vs.toArray) (by rw [List.size_toArray, rl.length]) (one e) (fun i y v hy hv => (rl.get hy).elim fun v' q => by
      have : vs[i]? = some v := by simpa using hv
      cases this.symm.trans q.1; exact q.2) fun i h t => t.1.elim fun o q => ⟨o, _, _, q.1, q.2.1, q.2.2, rfl⟩) ⟨⟨_, Heap.get?_push_size _ rfl, rfl, rfl⟩, hl.push _⟩)
  cases x <;> first | (cases hi; done) | (cases hi; skip)
  case str a =>
    obtain ⟨t, rfl⟩ := r
    have hP : ∀ (i : Nat) y v, (a.map fun c => V.str [c])[i]? = some y → SignAt ⟨a.toArray⟩ i v → Rel F y v := by
      rintro i y v hy ⟨c, u, hc, rfl⟩
      have hc : a[i]? = some c := by simpa using hc
      rw [List.getElem?_map, hc] at hy
      cases hy; exact ⟨u, rfl⟩
    have ob : ∀ T, ownTs.contains T = false → ∀ i (h : Heap), h.IsStrIter s.heap.objs.size T ⟨a.toArray⟩ t i → ∃ o T vs, h.get? s.heap.objs.size = some o ∧ o.cls = .type T ∧ o.data = .fields vs ∧ ownTs.contains T = false :=
      fun T hT i h q => q.elim fun o q => ⟨o, _, _, q.1, q.2.1, q.2.2, hT⟩
    cases ha : (⟨a.toArray⟩ : Str).cps.all (· < 128)
    · exact wpAny_pyIter_wide ha (h _ _ (it_of (Walks.strWide k.handled _ _ t) (by simp) (fun b hb hn => absurd (List.mem_singleton.mp hb) hn) hP (ob _ rfl)) ⟨_, Heap.get?_push_size _ rfl, rfl, rfl⟩)
    · exact wpAny_pyIter_ascii ha (h _ _ (it_of (Walks.strAscii k.handled _ _ t) (by simp) (fun b hb hn => absurd (List.mem_singleton.mp hb) hn) hP (ob _ rfl)) ⟨_, Heap.get?_push_size _ rfl, rfl, rfl⟩)
  case tup =>
    obtain ⟨a, vs, rfl, ⟨n, e⟩, rl⟩ := r
    have ht : s.heap.IsTuple a vs.toArray := ⟨_, k.sub _ _ e, rfl, n, rfl⟩
    exact wpAny_pyIter_tuple ht (h _ _ (it_of (Walks.tuple k.handled _ a (ne e) vs.toArray) (by rw [List.size_toArray, rl.length]) (one e) (fun i y v hy hv => (rl.get hy).elim fun v' q => by
      have : vs[i]? = some v := by simpa using hv
      cases this.symm.trans q.1; exact q.2) fun i h t => t.1.elim fun o q => ⟨o, _, _, q.1, q.2.1, q.2.2, rfl⟩) ⟨⟨_, Heap.get?_push_size _ rfl, rfl, rfl⟩, ht.at fun o e => Heap.get?_push_of_some _ e⟩)
  case lst =>
    obtain ⟨a, vs, rfl, ⟨n, e⟩, rl⟩ := r
    exact lst e ⟨rfl, n, rfl⟩ rl
  case scr =>
    obtain ⟨a, vs, rfl, ⟨o, e, q⟩, rl⟩ := r
    exact lst e q rl
  case rng a b =>
    obtain ⟨⟨h1, h2, h3, h4⟩, a', t, u, w, rfl, e⟩ := r
    refine wpAny_pyIter_range (k.sub _ _ e) (small_one h1 h2 h3 h4) (h _ _ (it_of (Walks.range k.handled _ a 1 (b - a).toNat) (by simp) (fun b hb hn => absurd (List.mem_singleton.mp hb) hn) ?_ fun i h q => ⟨_, _, _, q, rfl, rfl, rfl⟩) ?_)
    · rintro i y v hy ⟨u, rfl⟩
      have hlt : i < (b - a).toNat := by have := (List.getElem?_eq_some_iff.mp hy).1; simpa using this
      rw [List.getElem?_map, List.getElem?_range hlt] at hy
      cases hy; exact ⟨u, by rw [Int.mul_one]⟩
    · have e : Builtin.Range.rangeSize a b 1 = ((b - a).toNat : Int) := by rw [rangeSize_one]; split <;> (first | exact a386 ‹_› | exact a387 ‹_›)
      rw [e]
      have := Heap.get?_push_size s.heap (o := { cls := .type "range_iterator", data := .fields #[rawInt a, rawInt ((b - a).toNat : Int), rawInt 1] }) rfl
      show Heap.get? _ _ = _
      simpa using this
/-- an object, new since s₀, is changed -/
theorem Lk.priv {r : Addr} {h' : Heap} {t : Nat} (L : Lk env σ₀ F₀ s₀ σ F s) (hq : F r = none) (h0 : s₀.heap.get? r = none) (hs : Heap.ExtBut r s.heap h') : Lk env σ₀ F₀ s₀ σ F { s with heap := h', toks := t } :=
  have ne : ∀ b o, s₀.heap.get? b = some o → b ≠ r := fun b o e => by rintro rfl; exact nomatch h0.symm.trans e
  ⟨⟨L.S.up, fun a o e => hs a o (by rintro rfl; exact nomatch hq.symm.trans e) (L.S.sub a o e), fun b o e d => (L.S.keepO b o e d).imp fun o' q => ⟨hs b o' (ne b o e) q.1, q.2⟩, fun b o e => (L.S.live b o e).imp fun o' e' => ⟨hs b o' (ne b o e) e'.1, e'.2⟩, L.S.new, by rw [L.S.rest]⟩, L.d⟩

/-! ## for -/
def Asg (G : Gl) (K : Sx) (t : PySem.Expr) (y : V) (ρ ρ' : List V) : Prop := ∀ A env σ F s E v (R : Unit → Shared → Prop), FOk G K A env ρ σ F s → Rel F y v →
  (∀ h' tk, FOk G K A env ρ' σ F { s with heap := h', toks := tk } → Lk env σ F s σ F { s with heap := h', toks := tk } → (∀ b o, ¬ Own env b → s.heap.get? b = some o → h'.get? b = some o) → R () { s with heap := h', toks := tk }) → wpAny G.M A (assign t env v) R E s
theorem asg_name (i : Nat) {n : Str} (hx : nameOK K i n = true := by decide +kernel) : Asg G K (.Name n q) y ρ (ρ.set i y) := fun A env σ F s E v R k r h => wpAny_assign_Name (store_ok k hx r h)
theorem owned_go {target : PySem.Expr} {it : Addr} {v' : Value} {R : Unit → Shared → Prop} {M : Model} (ho : ∃ o T vs, s.heap.get? it = some o ∧ o.cls = .type T ∧ o.data = .fields vs ∧ ownTs.contains T = false) (k : R () s) : wpAny M A (letOwnedTupleGo target (.ref it) v') R E s := by
  obtain ⟨o, T, vs, ho, hc, hd, hT⟩ := ho
  unfold ownTs at hT
  unfold letOwnedTupleGo
  split
  all_goals first
    | exact wpAny_pure k
    | (split
       all_goals first
         | (rename_i heq
            cases heq
            refine wpAny_bind (wpAny_load ho ?_)
            rw [hc, hd]
            simp only [hT, Bool.false_and, Bool.false_eq_true, if_false]
            exact wpAny_pure k)
         | exact wpAny_pure k)
theorem forLoop_rule {prog : Program} {w : World} {R : Result → Shared → Prop} {Ex : Value → Shared → Prop} {target : PySem.Expr} {it : Value} {body : List PySem.Stmt} {env : Env} {s : Shared} (I : Nat → Shared → Prop)
    (hx : ∀ v s', Ex v s' → notedBy (model prog w) A env (fun e s' => R (.error e) s') v s')
    (turn : ∀ n s, I n s → wpAny (model prog w) A (pyNext it) (fun r s₁ => match r with
      | none => R (.ok .next) s₁
      | some v => wpAny (model prog w) A (letOwnedTupleGo target it v) (fun _ s₁' => wpAny (model prog w) A (assign target env v) (fun _ s₂ => wpAny (model prog w) A (execs body env) (fun f s₃ => match f with
          | .next | .cont => ∃ m, m < n ∧ I m s₃
          | .brk => R (.ok .next) s₃
          | .ret v => R (.ok (.ret v)) s₃) Ex s₂) Ex s₁') Ex s₁) Ex s)
    (n : Nat) (h : I n s) : codeAny (model prog w) A (.forLoop target it body [] env) R s := by
  refine codeAny_loop' rfl I (fun n s hI => ?_) n h
  show wpAny _ _ ((forTurn target it body [] env).onRaise (fun x => do noteFrame x env; theTreesLotGoes x)) _ _ s
  refine wpAny_noted ?_
  simp only [forTurn]
  refine wpAny_bind (wpAny_standAt (wpAny_bind (wpAny_onRaise (wpAny_mono (wpAny_mono (turn n s hI) (fun r s₁ h₁ => h₁) hx) (fun r s₁ h₁ => ?_) fun _ _ h' => wpAny_standAt h'))))
  cases r with
  | none => exact wpAny_pure (.inr ⟨rfl, codeAny_block (wpAny_execs_nil h₁)⟩)
  | some v =>
    refine wpAny_bind (wpAny_mono h₁ (fun _ s₁' h₁' => ?_) hx)
    refine wpAny_bind (wpAny_mono h₁' (fun _ s₂ h₂ => wpAny_bind (wpAny_mono h₂ (fun f s₃ h₃ => ?_) hx)) hx)
    cases f with
    | next => exact wpAny_pure (.inl ⟨rfl, h₃⟩)
    | cont => exact wpAny_pure (.inl ⟨rfl, h₃⟩)
    | brk => exact wpAny_pure h₃
    | ret v => exact wpAny_pure h₃
/-- what a frame's statements do to the records that are not its own -/
theorem Lk.recs (L : Lk env σ F s σ₁ F₁ s₁) (k : FOk G K A env ρ σ F s) : (∀ a o, F a = some o → F₁ a = some o) ∧ ∀ b o vs, s.heap.get? b = some o → o.data = .fields vs → F b = none → σ b = none → s₁.heap.get? b = some o ∧ F₁ b = none ∧ σ₁ b = none :=
  ⟨L.S.up, fun b o vs ho hd hF hσ => ⟨L.S.keep b o ho (fun q => q.elim (k.notOwn ho (fun _ _ e => nomatch hd.symm.trans e) fun _ e => nomatch hd.symm.trans e) fun q => q.elim fun _ q => (nomatch hσ.symm.trans q)) (fun _ _ e => nomatch hd.symm.trans e), L.S.out hF ho, by
    cases hq : σ₁ b with
    | none => rfl
    | some xs => exact (L.d b xs hq).elim (fun q => q.elim fun _ q => nomatch hσ.symm.trans q) fun q => nomatch ho.symm.trans q⟩⟩
/-- a loop, with what it is to keep -/
theorem for_core {R : Flow → Shared → Prop} {Ex : Value → Shared → Prop} (I : Nat → List V → Ow → Fz → Heap → Prop) (k : FOk G K A env ρ σ F s) (L₀ : Lk env σ₀ F₀ s₀ σ F s) (h1 : wpAny G.M A (eval e env) (fun v s₁ => ∃ F₁, St N0 F s F₁ s₁ ∧ Rel F₁ x v ∧ I 0 ρ σ F₁ s₁.heap) E s) (hi : itemsOf x = some xs)
    (hx : ∀ v s', Ex v s' → notedBy G.M A env (cameBackBy G.M A env E) v s')
    (stab : ∀ i ρ σ F (h h' : Heap), I i ρ σ F h → (∀ b o, h.get? b = some o → (∀ vs, o.data ≠ .fields vs) → h'.get? b = some o) → I i ρ σ F h')
    (turn : ∀ (i : Nat) ρ' σ' F' s' y v, xs[i]? = some y → FOk G K A env ρ' σ' F' s' → Lk env σ₀ F₀ s₀ σ' F' s' → I i ρ' σ' F' s'.heap → Rel F' y v → wpAny G.M A (assign t env v) (fun _ s₂ => wpAny G.M A (execs body env) (fun f s₃ => ∃ fl ρ₃ σ₃ F₃, FlRel F₃ f fl ∧ FOk G K A env ρ₃ σ₃ F₃ s₃ ∧ Lk env σ₀ F₀ s₀ σ₃ F₃ s₃ ∧
      ((∀ a o, F' a = some o → F₃ a = some o) ∧ ∀ b o vs, s'.heap.get? b = some o → o.data = .fields vs → F' b = none → σ' b = none → s₃.heap.get? b = some o ∧ F₃ b = none ∧ σ₃ b = none) ∧ (fl = .next → I (i + 1) ρ₃ σ₃ F₃ s₃.heap) ∧ (∀ x, fl = .ret x → R f s₃)) Ex s₂) Ex s')
    (fin : ∀ ρ' σ' F' s', FOk G K A env ρ' σ' F' s' → Lk env σ₀ F₀ s₀ σ' F' s' → I xs.length ρ' σ' F' s'.heap → R .next s') (hns : ∀ v, foldedSetIterable e env v = pure v) : wpAny G.M A (exec (.For t e body [] p) env) R E s :=
  wpAny_For (wpAny_mono h1 (fun v s₁ q => q.elim fun F₁ q => iter_ok hi (k.e.rm.step q.1) q.2.1 fun ob P W hP => by
    obtain ⟨S₁, r₁, h0⟩ := q
    have k₁ := k.e.step S₁
    have hn : s₁.heap.get? s₁.heap.objs.size = none := size_none _
    generalize s₁.heap.objs.size = it at *
    have S₂ : St N0 F₁ s₁ F₁ { s₁ with heap := s₁.heap.push ob } := St.grow (t := s₁.toks) k₁.rm.sub fun _ _ e => Heap.get?_push_of_some _ e
    have hs : s₀.heap.get? it = none := L₀.S.dead (S₁.dead hn)
    have hF : F₁ it = none := by
      cases q : F₁ it with
      | none => rfl
      | some o => exact nomatch hn.symm.trans (k₁.rm.sub _ _ q)
    refine forLoop_rule (Ex := Ex) (fun m s' => ∃ i ρ' σ' F', m + i = xs.length + 1 ∧ i ≤ xs.length ∧ FOk G K A env ρ' σ' F' s' ∧ Lk env σ₀ F₀ s₀ σ' F' s' ∧ (∀ a o, F₁ a = some o → F' a = some o) ∧ F' it = none ∧ σ' it = none ∧ P i s'.heap ∧ I i ρ' σ' F' s'.heap) hx (fun m s' => ?_) (xs.length + 1)
      ⟨0, ρ, σ, F₁, rfl, Nat.zero_le _, (k.step S₁).step S₂, L₀.trans (S₁.trans S₂).lk, fun _ _ e => e, hF, ?_, hP, stab _ _ _ _ _ _ h0 fun b o e _ => Heap.get?_push_of_some _ e⟩
    · rintro ⟨i, ρ', σ', F', hm, hle, k', L', up, hF', hσ', hP', hI⟩
      obtain ⟨oi, T, ovs, hoi, hc, hd, _⟩ := W.obj _ _ hP'
      have own : ¬ Own env it := k'.notOwn hoi (fun _ _ e => by rw [hd] at e; cases e) fun _ e => by rw [hd] at e; cases e
      have nofr : NoFr A it := k'.e.rm.nofr fun o es n e h => by cases hoi.symm.trans e; exact nomatch hd.symm.trans h
      have other : ∀ {h₁ : Heap} {t₁ : Nat}, Heap.ExtBut it s'.heap h₁ → FOk G K A env ρ' σ' F' { s' with heap := h₁, toks := t₁ } ∧ Lk env σ₀ F₀ s₀ σ' F' { s' with heap := h₁, toks := t₁ } ∧ ∀ j, I j ρ' σ' F' s'.heap → I j ρ' σ' F' h₁ := fun hs₁ =>
        ⟨k'.other hF' hs₁ own nofr fun a xs q => (k'.e.own a xs q).elim fun h1 h2 => ⟨h1, h2.imp fun vs h2 => h2.imp fun n h2 => ⟨hs₁ _ _ (by rintro rfl; exact nomatch hσ'.symm.trans q) h2.1, h2.2⟩⟩, L'.priv hF' hs hs₁, fun j h => stab j _ _ _ _ _ h fun b o e hb => hs₁ b o (by rintro rfl; cases hoi.symm.trans e; exact hb _ hd) e⟩
      rcases Nat.lt_or_ge i xs.length with hlt | hge
      · obtain ⟨y, hy⟩ : ∃ y, xs[i]? = some y := ⟨_, List.getElem?_eq_getElem hlt⟩
        refine W.item i s' _ Ex y hy hP' fun v' h₁ t₁ hr hP₁ hs₁ => owned_go (W.obj _ _ hP₁) ?_
        obtain ⟨k₁, L₁, st⟩ := other (t₁ := t₁) hs₁
        refine wpAny_mono (turn i ρ' σ' F' _ y v' hy k₁ L₁ (st i hI) (hr.mono up)) (fun _ s₂ q => wpAny_mono q (fun f s₃ h => ?_) fun _ _ e => e) fun _ _ e => e
        obtain ⟨fl, ρ₃, σ₃, F₃, hf, k₃, L₃, ⟨u₃, rec⟩, q1, q2⟩ := h
        cases f <;> cases fl <;> first | exact hf.elim | skip
        · obtain ⟨oi', T', vs', hoi', _, h3, _⟩ := W.obj _ _ hP₁
          obtain ⟨g1, g2, g3⟩ := rec it oi' vs' hoi' h3 hF' hσ'
          exact ⟨m - 1, by (exact a364 hm hle), i + 1, ρ₃, σ₃, F₃, by (exact a381 hm hle), hlt, k₃, L₃, fun a o e => u₃ a o (up a o e), g2, g3, W.keep _ _ _ hP₁ (fun a o e => k₁.e.rm.sub a o (up a o e)) (fun a o e => k₃.e.rm.sub a o (u₃ a o (up a o e))) fun o e => by cases hoi'.symm.trans e; exact g1, q1 rfl⟩
        · exact q2 _ rfl
      · cases Nat.le_antisymm hle hge
        refine W.done s' _ Ex hP' fun h₁ t₁ hs₁ => ?_
        obtain ⟨k₁, L₁, st⟩ := other (t₁ := t₁) hs₁
        exact fin ρ' σ' F' _ k₁ L₁ (st _ hI)
    · cases hq : σ it with
      | none => rfl
      | some xs => exact (k.e.own it xs hq).2.elim fun _ q => q.elim fun _ q => nomatch (S₁.dead hn).symm.trans q.1) fun _ _ e => e) hns
theorem ws_for (I : Nat → List V → Ow → Prop) (h1 : Ev G K ρ σ e x) (hi : itemsOf x = some xs) (h0 : I 0 ρ σ) (turn : ∀ (i : Nat) ρ σ y, xs[i]? = some y → I i ρ σ → ∃ ρ', Asg G K t y ρ ρ' ∧ WS G K body ρ' σ (Kf I (i + 1) Q)) (fin : ∀ ρ σ, I xs.length ρ σ → WS G K ss ρ σ Q) (hns : ∀ env v, foldedSetIterable e env v = pure v := by intros; rfl) : WS G K (.For t e body [] p :: ss) ρ σ Q :=
  ws_cons fun A env F s E k => for_core (R := PS G K A env σ F s (Kc G K ss Q)) (fun i ρ σ _ _ => I i ρ σ) k (St.refl k.e.rm.sub).lk (h1.bind k.e fun v F₁ s₁ S r _ => ⟨F₁, S, r, h0⟩) hi (fun _ _ h => h) (fun _ _ _ _ _ _ h _ => h) (fun i ρ' σ' F' s' y v hy k' L' hI hr => by
    obtain ⟨ρ₂, ha, hb⟩ := turn i ρ' σ' y hy hI
    refine ha A env σ' F' s' _ v _ k' hr fun h₂ t₂ k₂ L₂ _ => wpAny_mono (hb A env F' _ _ k₂) (fun f s₃ h => h.casesOn fun fl ρ₃ σ₃ F₃ hf k₃ L₃ q => ⟨fl, ρ₃, σ₃, F₃, hf, k₃, L'.trans (L₂.trans L₃), (L₂.trans L₃).recs k', ?_, ?_⟩) fun _ _ e => e
    · rintro rfl; exact q
    · rintro x rfl; exact ⟨_, ρ₃, σ₃, F₃, hf, k₃, (L'.trans L₂).trans L₃, q⟩) (fun ρ' σ' F' s' k' L' hI => ⟨.next, ρ', σ', F', trivial, k', L', fin ρ' σ' hI⟩) (hns env)
end
end Mine

set_option autoImplicit false
set_option linter.all false
set_option genSizeOf false
set_option genInjectivity false
set_option maxRecDepth 100000
namespace Mine
open PySem PyProof.Rows

section
variable {G : Gl} {K : Sx} {A : Around} {env : Env} {ρ ρ₁ : List V} {σ σ₀ σ₁ σ₂ : Ow} {F F₀ F₁ F₂ : Fz} {s s₀ s₁ s₂ : Shared} {E : Value → Shared → Prop} {Q : KS} {e c l : PySem.Expr} {es : List PySem.Expr} {ss body : List Stmt} {st : Stmt} {x y z : V} {p q q' ap : Pos} {b : Bool} {xs ys : List V} {f : Str}
/-! ## a pair of names as a target -/
theorem asg_tup2 (i j : Nat) {n m : Str} {kk : Nat} (hx : nameOK K i n = true := by decide +kernel) (hy : nameOK K j m = true := by decide +kernel) : Asg G K (.Tuple [.Name n q, .Name m q'] kk p) (.tup [y, z]) ρ ((ρ.set i y).set j z) := by
  rintro A env σ F s E _ R k ⟨a, _, rfl, ⟨n', e⟩, v, _, rfl, r1, w, _, rfl, r2, rfl⟩ h
  refine wpAny_assign_Tuple k.e.rm.handled ⟨_, k.e.rm.sub _ _ e, rfl, n', rfl⟩ rfl rfl fun h₁ hs => ?_
  have hg : ∀ b o, s.heap.get? b = some o → h₁.get? b = some o := fun b o e => hs b o (Nat.ne_of_lt (Heap.lt_size e)) e
  have S : St N0 F s F { s with heap := h₁, toks := s.toks } := .grow k.e.rm.sub hg
  refine wpAny_assignInOrder_more (wpAny_assign_Name (store_ok (k.step S) hx r1 fun h₂ t₂ k₂ L₂ hk₂ => ?_))
  refine wpAny_assignInOrder_more (wpAny_assign_Name (store_ok k₂ hy r2 fun h₃ t₃ k₃ L₃ hk₃ => ?_))
  exact wpAny_pure (h h₃ t₃ k₃ ((S.lk.trans L₂).trans L₃) fun b o hb e => hk₃ b o hb (hk₂ b o hb (hg b o e)))

/-! ## lists of one's own -/
theorem FOk.fresh (k : FOk G K A env ρ σ F s) (t : Nat) : FOk G K A env ρ (σ.set s.heap.objs.size []) F { s with heap := s.heap.push (lobj [] 0), toks := t } ∧ Lk env σ F s (σ.set s.heap.objs.size []) F { s with heap := s.heap.push (lobj [] 0), toks := t } := by
  have up : ∀ b o, s.heap.get? b = some o → (s.heap.push (lobj [] 0)).get? b = some o := fun b o e => Heap.get?_push_of_some _ e
  have S : St N0 F s F { s with heap := s.heap.push (lobj [] 0), toks := t } := .grow k.e.rm.sub up
  have hF : F s.heap.objs.size = none := by
    cases q : F s.heap.objs.size with
    | none => rfl
    | some o => exact nomatch (size_none s.heap).symm.trans (k.e.rm.sub _ _ q)
  have k' := k.step S
  refine ⟨⟨⟨k'.e.rm, k'.e.sc, k'.e.kind, k'.e.globals, k'.e.builtins, fun a xs q => ?_, k'.e.loc⟩, k'.top, k'.apart, k'.nodup, k'.own⟩, S.any, fun b xs q => ?_⟩
  · by_cases h : a = s.heap.objs.size
    · subst h; cases (Ow.set_self ..).symm.trans q; exact ⟨hF, [], 0, Heap.get?_push_size _ rfl, rfl⟩
    · exact k'.e.own a xs ((Ow.set_ne _ _ h).symm.trans q)
  · by_cases h : b = s.heap.objs.size
    · exact .inr (h ▸ size_none _)
    · exact .inl ⟨xs, (Ow.set_ne _ _ h).symm.trans q⟩
theorem FOk.sizeσ (k : FOk G K A env ρ σ F s) : σ s.heap.objs.size = none := by
  cases q : σ s.heap.objs.size with
  | none => rfl
  | some xs => exact (k.e.own _ xs q).2.elim fun _ q => q.elim fun _ q => nomatch (size_none s.heap).symm.trans q.1
theorem ws_new (i : Nat) {n : Str} (h : ∀ a, σ a = none → WS G K ss (ρ.set i (.ref a)) (σ.set a []) Q) (hx : nameOK K i n = true := by decide +kernel) : WS G K (.Assign [.Name n q] (.List [] q') p :: ss) ρ σ Q :=
  ws_cons fun A env F s E k => wpAny_Assign_Name (List_ (Calls.spliced_nil (wpAny_newObj_type (store_ok (x := .ref s.heap.objs.size) (k.fresh s.toks).1 hx rfl fun h' t k₂ L _ => ⟨.next, _, _, F, trivial, k₂, (k.fresh s.toks).2.trans L, h _ k.sizeσ⟩) (Nat.zero_le _)))) rfl
/-- a change of one list of one's own -/
theorem FOk.put {a : Addr} {h' : Heap} {t n : Nat} {vs : List Value} (k : FOk G K A env ρ σ F s) (ha : σ a = some xs) (hs : Heap.ExtBut a s.heap h') (hv : h'.get? a = some (lobj vs n)) (r : RelL F ys vs) :
    FOk G K A env ρ (σ.set a ys) F { s with heap := h', toks := t } ∧ Lk env σ F s (σ.set a ys) F { s with heap := h', toks := t } := by
  obtain ⟨hF, us, m, hu, _⟩ := k.e.own a xs ha
  refine ⟨k.other hF hs (k.notOwn hu (fun _ _ e => nomatch e) fun _ e => nomatch e) (k.e.rm.nofr fun o es n e h => by cases hu.symm.trans e; cases h) fun b zs q => ?_, St.change k.e.rm.sub hF (.inl (.inr ⟨xs, ha⟩)) hs ⟨_, hv, fun o e es n h => by cases hu.symm.trans e; cases h⟩, fun b zs q => ?_⟩
  · by_cases h : b = a
    · subst h; cases (Ow.set_self ..).symm.trans q; exact ⟨hF, vs, n, hv, r⟩
    · exact (k.e.own b zs ((Ow.set_ne _ _ h).symm.trans q)).imp id fun q => q.imp fun _ q => q.imp fun _ q => ⟨hs b _ h q.1, q.2⟩
  · by_cases h : b = a
    · exact .inl ⟨xs, h ▸ ha⟩
    · exact .inl ⟨zs, (Ow.set_ne _ _ h).symm.trans q⟩
theorem append_ok {a : Addr} {v : Value} {R : Value → Shared → Prop} (k : FOk G K A env ρ σ F s) (ha : σ a = some xs) (r : Rel F y v) (hl : xs.length ≤ sizeLine)
    (h : ∀ h', FOk G K A env ρ (σ.set a (xs ++ [y])) F { s with heap := h' } → Lk env σ F s (σ.set a (xs ++ [y])) F { s with heap := h' } → R .none { s with heap := h' }) : wpAny G.M A (call (.builtin "list.append") [.ref a, v]) R E s := by
  obtain ⟨hF, vs, n, hv, rl⟩ := k.e.own a xs ha
  refine wpAny_list_append_plain ⟨n, hv⟩ (fun h' hp hs => ?_) (by rw [List.size_toArray, rl.length]; exact hl)
  obtain ⟨n', hp⟩ := hp
  have hp' : h'.get? a = some (lobj (vs ++ [v]) n') := by rw [hp]; simp [lobj]
  exact h h' (k.put (t := s.toks) ha hs.extBut hp' (rl.append (.one r))).1 (k.put (t := s.toks) ha hs.extBut hp' (rl.append (.one r))).2
theorem get_append {a : Addr} {F : Fz} {s : Shared} {v : Value} {pl : Sem Bool} {R : Value × List Value → Shared → Prop} (ha : σ a = some xs) (k : EOk G K A env ρ σ F s) (r : Rel F (.ref a) v) (h : R (.builtin "list.append", [v]) s) : wpAny G.M A (getMethod v "append" pl) R E s := by
  cases show v = .ref a from r
  obtain ⟨_, vs, n, hv, _⟩ := k.own a xs ha
  exact Calls.getMethod_list_append hv rfl rfl h
theorem ws_append {a : Addr} (h1 : Ev G K ρ σ l (.ref a)) (ha : σ a = some xs) (h2 : Ev G K ρ σ e y) (hl : xs.length ≤ sizeLine) (h : WS G K ss ρ (σ.set a (xs ++ [y])) Q) (hn : ∀ n env t, attributeBase l n env t = t := by intros; rfl) (hp : (ap.endLine == q.line) = true := by rfl) (hs : notStar e = true := by rfl) :
    WS G K (.Expr (.Call (.Attribute l "append" ap) [e] [] q) p :: ss) ρ σ Q :=
  ws_cons fun A env F s E k => wpAny_Expr_any (meth_ok (id := "list.append") h1 hn hp (by rw [List.all_cons, hs]; rfl) (Nat.lt_of_sub_eq_succ rfl) (evl_cons h2 evl_nil) k.e (fun F s v pl Q k => get_append ha k)
    (by rintro v _ F₁ s₁ S k₁ r ⟨w, _, rfl, r2, rfl⟩
        cases show v = .ref a from r
        exact append_ok (k.step S) ha r2 hl fun h' k₂ L => ⟨.next, ρ, _, F₁, trivial, k₂, S.lk.trans L, h⟩)) (by unfold interactive; rw [k.e.kind]; rfl) rfl
/-- a pair of a value and a new list is appended -/
theorem ws_append_new {a : Addr} {p₁ p₂ : Pos} {m : Nat} (h1 : Ev G K ρ σ l (.ref a)) (ha : σ a = some xs) (h2 : Ev G K ρ σ e y) (hl : xs.length ≤ sizeLine) (h : ∀ b, σ b = none → b ≠ a → WS G K ss ρ ((σ.set b []).set a (xs ++ [.tup [y, .ref b]])) Q) (hn : ∀ n env t, attributeBase l n env t = t := by intros; rfl) (hp : (ap.endLine == q.line) = true := by rfl) (hs : notStar e = true := by rfl) :
    WS G K (.Expr (.Call (.Attribute l "append" ap) [.Tuple [e, .List [] p₁] m p₂] [] q) p :: ss) ρ σ Q :=
  ws_cons fun A env F s E k => wpAny_Expr_any (meth_gen (id := "list.append") h1 hn hp rfl (Nat.lt_of_sub_eq_succ rfl) k.e (fun F s v pl Q k => get_append ha k)
    (fun v F₁ s₁ S k₁ r => by
      cases show v = .ref a from r
      refine Calls.spliced_cons (Tuple_ ?_)
      rw [back_star p₂ env (es := [e, .List [] p₁]) (by rw [List.all_cons, hs]; rfl)]
      refine Calls.spliced_cons (h2.bind k₁ fun w F₂ s₂ S₂ r₂ k₂ => Calls.spliced_cons (List_ (Calls.spliced_nil (wpAny_newObj_type (Calls.spliced_nil ?_) (Nat.zero_le _)))))
      have kf := (k.step S).step S₂
      obtain ⟨k₃, L₃⟩ := kf.fresh s₂.toks
      have hb := kf.sizeσ
      have hba : s₂.heap.objs.size ≠ a := by rintro e; rw [e, ha] at hb; cases hb
      refine wpAny_mono (newTuple_ok (xs := [y, .ref s₂.heap.objs.size]) k₃.e.rm ⟨w, _, rfl, r₂, _, _, rfl, rfl, rfl⟩ (by show 2 ≤ sizeLine; decide)) (fun u s₄ q => q.casesOn fun F₄ S₄ r₄ => Calls.spliced_nil ?_) fun _ _ e => e
      exact append_ok (k₃.step S₄) ((Ow.set_ne _ _ hba.symm).trans ha) r₄ hl fun h' k₅ L₅ => ⟨.next, ρ, _, F₄, trivial, k₅, (((S.trans S₂).lk.trans L₃).trans S₄.lk).trans L₅, h _ hb hba⟩)) (by unfold interactive; rw [k.e.kind]; rfl) rfl

/-! ## a call that changes one list -/
structure Proc (G : Gl) (f : Str) (xs : List V) (a : Addr) (acc acc' : List V) : Prop where
  is : ∃ o fd, G.mg f = some (.ref (G.fn f)) ∧ G.B.get? (G.fn f) = some o ∧ o.data = .func fd
  run : ∀ A F s E vs us n, Rm G A F s → RelL F xs vs → F a = none → s.heap.get? a = some (lobj us n) → RelL F acc us →
    wpAny G.M A (call (.ref (G.fn f)) vs) (fun _ s' => ∃ F' us' n', St (· = a) F s F' s' ∧ s'.heap.get? a = some (lobj us' n') ∧ RelL F' acc' us') E s
theorem ws_proc {a : Addr} {acc acc' : List V} (h : Proc G f xs a acc acc') (ha : EvL G K ρ σ es xs) (hσ : σ a = some acc) (h2 : WS G K ss ρ (σ.set a acc') Q) (hs : es.all notStar = true := by rfl) (hg : globOK K f = true := by decide +kernel) :
    WS G K (.Expr (.Call (.Name f q) es [] q') p :: ss) ρ σ Q :=
  ws_cons fun A env F s E k => wpAny_Expr_any (by
    obtain ⟨o, fd, hf, ho, hfd⟩ := h.is
    refine wpAny_Call_NameR (name_global k.e (.inl hf) hg ?_)
    rw [back_star q' env hs]
    refine Calls.callWith_function (evalArgs_list (all_false es env) (ha.bind k.e fun vs F₁ s₁ S₁ r₁ k₁ => ⟨⟨k₁.rm.in _ _ ho, hfd⟩, ?_⟩))
    obtain ⟨hF, us, n, hu, ru⟩ := k₁.own a acc hσ
    refine wpAny_mono (h.run A F₁ s₁ E vs us n k₁.rm r₁ hF hu ru) (fun _ s₂ q => ?_) fun _ _ e => e
    obtain ⟨F₂, us', n', S₂, hu', ru'⟩ := q
    have k₁' := k.step S₁
    -- first the list alone, in the heap of the end; then the rest, which only grows
    have own : ¬ Own env a := k₁'.notOwn hu (fun _ _ e => nomatch e) fun _ e => nomatch e
    have upO : ∀ b o, b ≠ a → s₁.heap.get? b = some o → ∃ o', s₂.heap.get? b = some o' ∧ KeepO o o' := fun b o hb e => S₂.keepO b o e hb
    have up : ∀ b o, b ≠ a → s₁.heap.get? b = some o → (∀ es n, o.data ≠ .dict es n) → s₂.heap.get? b = some o := fun b o hb e hd => S₂.keep b o e hb hd
    have k₃ : FOk G K A env ρ (σ.set a acc') F₂ s₂ := ⟨⟨k₁.rm.step S₂, k₁.sc, k₁.kind, k₁.globals, k₁.builtins, fun b zs q => ?_,
      ⟨k₁.loc.len, k₁.loc.vars.elim fun _ q => (Ns_obj q.1).elim fun _ e => S₂.out k₁.loc.out e, k₁.loc.vars.imp fun m r => ⟨ns_keepO r.1 fun o e => upO _ o (fun e => own (.inl e.symm)) e, fun i x v hx hv => ⟨fun hk => ((r.2 i x v hx hv).1 hk).mono S₂.up, fun hk => ((r.2 i x v hx hv).2 hk).imp fun c u => u.imp fun ov u =>
        ⟨u.1, u.2.1.imp fun oc w => ⟨up _ _ (by rintro rfl; exact own (.inr ⟨x, mem_of_lookup u.1⟩)) w.1 (fun _ _ e => nomatch w.2.symm.trans e), w.2⟩, u.2.2.1.mono S₂.up, u.2.1.elim fun _ w => S₂.out u.2.2.2 w.1⟩⟩⟩⟩⟩,
      k.top, k.apart, k.nodup, fun x c hc => (k₁'.own x c hc).elim fun h1 h2 => ⟨h1.imp fun _ h => h.imp fun _ h => ⟨up _ _ (by rintro rfl; exact own (.inr ⟨x, hc⟩)) h.1 (fun _ _ e => nomatch h.2.symm.trans e), h.2⟩, h1.elim fun _ h => h.elim fun _ h => S₂.out h2 h.1⟩⟩
    · refine ⟨.next, ρ, _, F₂, trivial, k₃, S₁.lk.trans ⟨S₂.weaken fun b o _ q => .inr ⟨acc, q ▸ hσ⟩, fun b zs q => ?_⟩, h2⟩
      by_cases hb : b = a
      · exact .inl ⟨acc, hb ▸ hσ⟩
      · exact .inl ⟨zs, (Ow.set_ne _ _ hb).symm.trans q⟩
    · by_cases hb : b = a
      · subst hb; cases (Ow.set_self ..).symm.trans q; exact ⟨S₂.out hF hu, us', n', hu', ru'⟩
      · exact (k₁.own b zs ((Ow.set_ne _ _ hb).symm.trans q)).elim fun h1 h2 => h2.elim fun ws h2 => h2.elim fun m h2 => ⟨S₂.out h1 h2.1, ws, m, up _ _ hb h2.1 (fun _ _ e => nomatch e), h2.2.mono S₂.up⟩) (by unfold interactive; rw [k.e.kind]; rfl) rfl
end
end Mine

set_option autoImplicit false
set_option linter.all false
set_option genSizeOf false
set_option genInjectivity false
set_option maxRecDepth 100000
namespace Mine
open PySem PyProof.Rows

/-! ## what a frame hands back: its own lists are frozen -/
mutual
inductive Res (σ : Ow) : V → V → Prop
  | id (x : V) : Res σ x x
  | own {a : Addr} {xs ys : List V} : σ a = some xs → ResL σ xs ys → Res σ (.ref a) (.lst ys)
  | tup {xs ys : List V} : ResL σ xs ys → Res σ (.tup xs) (.tup ys)
inductive ResL (σ : Ow) : List V → List V → Prop
  | nil : ResL σ [] []
  | cons {x y : V} {xs ys : List V} : Res σ x y → ResL σ xs ys → ResL σ (x :: xs) (y :: ys)
end
theorem ResL.same {σ : Ow} : ∀ xs : List V, ResL σ xs xs
  | [] => .nil
  | x :: xs => .cons (.id x) (ResL.same xs)
theorem Res.frz {σ : Ow} {a : Addr} {xs : List V} (h : σ a = some xs) : Res σ (.ref a) (.lst xs) := .own h (.same xs)
section
variable {σ : Ow} {F F' : Fz}
mutual
theorem Res.rel (up : ∀ a o, F a = some o → F' a = some o) (ho : ∀ a xs, σ a = some xs → ∃ vs n, F' a = some (lobj vs n) ∧ RelL F xs vs) : ∀ {x y : V} {v : Value}, Res σ x y → Rel F x v → Rel F' y v
  | _, _, _, .id _, r => r.mono up
  | _, _, _, .own h q, r => (ho _ _ h).elim fun vs t => t.elim fun n t => ⟨_, vs, r, ⟨n, t.1⟩, ResL.rel up ho q t.2⟩
  | _, _, _, .tup q, r => r.imp fun _ r => r.imp fun _ r => ⟨r.1, r.2.1.imp fun _ => up _ _, ResL.rel up ho q r.2.2⟩
theorem ResL.rel (up : ∀ a o, F a = some o → F' a = some o) (ho : ∀ a xs, σ a = some xs → ∃ vs n, F' a = some (lobj vs n) ∧ RelL F xs vs) : ∀ {xs ys : List V} {vs : List Value}, ResL σ xs ys → RelL F xs vs → RelL F' ys vs
  | _, _, _, .nil, r => r
  | _, _, _, .cons a b, r => r.imp fun _ r => r.imp fun _ r => ⟨r.1, Res.rel up ho a r.2.1, ResL.rel up ho b r.2.2⟩
end
end
def retP (P : V → Prop) : KS := fun fl _ σ => match fl with | .ret x => ∃ z, Res σ x z ∧ P z | .next => P .none
structure PureP (G : Gl) (f : Str) (xs : List V) (P : V → Prop) : Prop where
  is : ∃ o fd, G.mg f = some (.ref (G.fn f)) ∧ G.B.get? (G.fn f) = some o ∧ o.data = .func fd
  run : ∀ A F s E vs, Rm G A F s → RelL F xs vs → wpAny G.M A (call (.ref (G.fn f)) vs) (fun v s' => ∃ z, P z ∧ PV F s z v s') E s
def retQ (z : V) : KS := fun fl _ σ => match fl with | .ret x => Res σ x z | .next => z = .none
def procQ (a : Addr) (acc : List V) : KS := fun _ _ σ => σ a = some acc
def σ0 : Ow := fun _ => none
noncomputable def σ1 (a : Addr) (xs : List V) : Ow := σ0.set a xs

/-! ## entering a function of the text -/
def fnChk (K : Sx) (np : Nat) : Bool :=
  !K.sc.isCoroutine && !K.sc.isGenerator && K.sc.kind == .function && (K.ns.all fun x => K.sc.names.lookup x == some .local || K.sc.names.lookup x == some .cell) && decide (((cellsFrom 0 K.sc.names []).map (·.1)).Nodup) && decide K.ns.Nodup && decide (np ≤ K.ns.length)
/-- a function object: its names, the number of its parameters, its text -/
structure FnO (B : Heap) (fa : Addr) (K : Sx) (np : Nat) (sts : List Stmt) : Prop where
  obj : ∃ o fd, B.get? fa = some o ∧ o.data = .func fd ∧ B.CodeRec fd.code fd.qualname ∧ fd.body = .stmts sts ∧ fd.closure = [] ∧ fd.globals = mainGlobals ∧ fd.builtins = builtinsNs ∧
    (∀ vs : List Value, vs.length = np → bindArgs fd ⟨vs, []⟩ = pure ((K.ns.take np).zip vs)) ∧ fd.scope = K.sc
  chk : fnChk K np = true
structure FnAt (B : Heap) (mg : Str → Option Value) (f : Str) (K : Sx) (np : Nat) (sts : List Stmt) : Prop where
  obj : ∃ o fd, mg f = some (.ref (fnA mg f)) ∧ B.get? (fnA mg f) = some o ∧ o.data = .func fd ∧ B.CodeRec fd.code fd.qualname ∧ fd.body = .stmts sts ∧ fd.closure = [] ∧ fd.globals = mainGlobals ∧ fd.builtins = builtinsNs ∧
    (∀ vs : List Value, vs.length = np → bindArgs fd ⟨vs, []⟩ = pure ((K.ns.take np).zip vs)) ∧ fd.scope = K.sc
  chk : fnChk K np = true
theorem FnAt.o {B : Heap} {mg : Str → Option Value} {f : Str} {K : Sx} {np : Nat} {sts : List Stmt} (h : FnAt B mg f K np sts) : FnO B (fnA mg f) K np sts := ⟨h.obj.imp fun _ q => q.imp fun _ q => q.2, h.chk⟩
section
variable {kindOf : Str → Option NameKind}
theorem bindL_miss : ∀ {binds : List (Str × Value)} {m : Str → Option Value} {x : Str}, (∀ y ∈ binds, y.1 ≠ x) → bindL kindOf binds m x = m x
  | [], _, _, _ => rfl
  | (n, v) :: r, m, x, h => by
    unfold bindL
    rw [bindL_miss fun y hy => h y (List.mem_cons_of_mem _ hy)]
    split
    · exact if_neg fun e => h (n, v) (List.mem_cons_self ..) e.symm
    · rfl
theorem bindC_miss : ∀ {binds : List (Str × Value)} {m : Str → Option Value} {x : Str}, (∀ y ∈ binds, y.1 ≠ x) → bindC kindOf binds m x = m x
  | [], _, _, _ => rfl
  | (n, v) :: r, m, x, h => by
    unfold bindC
    rw [bindC_miss fun y hy => h y (List.mem_cons_of_mem _ hy)]
    split
    · rfl
    · exact if_neg fun e => h (n, v) (List.mem_cons_self ..) e.symm
theorem zip_miss {ps : List Str} {vs : List Value} {x : Str} (h : x ∉ ps) : ∀ y ∈ ps.zip vs, y.1 ≠ x := fun y hy e => h (e ▸ (List.of_mem_zip (show (y.1, y.2) ∈ ps.zip vs from hy)).1)
theorem bind_hit : ∀ {ps : List Str} {vs : List Value} {m : Str → Option Value} {i : Nat} {x : Str} {v : Value}, ps.Nodup → ps[i]? = some x → vs[i]? = some v →
    (kindOf x = some .local → bindL kindOf (ps.zip vs) m x = some v) ∧ (kindOf x ≠ some .local → bindC kindOf (ps.zip vs) m x = some v)
  | [], _, _, _, _, _, _, h, _ => nomatch h
  | _ :: _, [], _, _, _, _, _, _, h => nomatch h
  | p :: ps, v :: vs, m, 0, x, w, hn, h1, h2 => by
    cases h1; cases h2
    have hm := zip_miss (vs := vs) (List.nodup_cons.mp hn).1
    refine ⟨fun hk => ?_, fun hk => ?_⟩
    · show bindL kindOf (ps.zip vs) _ p = _
      rw [bindL_miss hm, if_pos hk]; exact if_pos rfl
    · show bindC kindOf (ps.zip vs) _ p = _
      rw [bindC_miss hm, if_neg hk]; exact if_pos rfl
  | p :: ps, v :: vs, m, i + 1, x, w, hn, h1, h2 => ⟨fun hk => (bind_hit (List.nodup_cons.mp hn).2 h1 h2).1 hk, fun hk => (bind_hit (List.nodup_cons.mp hn).2 h1 h2).2 hk⟩
end
theorem cellsFrom_keys : ∀ (names : List (Str × NameKind)) (n k : Nat) (acc acc' : List (Str × Addr)), acc.map (·.1) = acc'.map (·.1) → (cellsFrom n names acc).map (·.1) = (cellsFrom k names acc').map (·.1)
  | [], _, _, _, _, h => h
  | (x, kd) :: r, n, k, acc, acc', h => by
    unfold cellsFrom
    split
    · exact cellsFrom_keys r _ _ _ _ (by simp [h])
    · exact cellsFrom_keys r _ _ _ _ h
theorem lookup_of_mem : ∀ {l : List (Str × Addr)} {x : Str} {c : Addr}, (l.map (·.1)).Nodup → (x, c) ∈ l → l.lookup x = some c
  | (y, d) :: r, x, c, hn, hm => by
    rw [List.map_cons, List.nodup_cons] at hn
    rcases List.mem_cons.mp hm with e | hm'
    · cases e; simp
    · have hne : x ≠ y := by rintro rfl; exact hn.1 (List.mem_map_of_mem (f := (·.1)) hm')
      rw [List.lookup_cons, beq_false_of_ne hne]
      exact lookup_of_mem hn.2 hm'
theorem St.then {D D₁ : Addr → Prop} {F F₁ F₂ : Fz} {s s₁ s₂ : Shared} (x : St N0 F s F₁ s₁) (y : St D₁ F₁ s₁ F₂ s₂) (h : ∀ b o, s.heap.get? b = some o → D₁ b → D b) : St D F s F₂ s₂ :=
  ⟨fun a o e => y.up a o (x.up a o e), y.sub, fun b o e d => (x.keepO b o e id).elim fun o' r => (y.keepO b o' r.1 fun q => d (h b o e q)).imp fun _ t => ⟨t.1, r.2.trans t.2⟩, fun b o e => (x.live b o e).elim fun o' e' => (y.live b o' e'.1).imp fun _ r => ⟨r.1, e'.2.trans r.2⟩, fun b o e => (y.new b o e).elim (x.new b o) fun q => .inr (x.dead q), by rw [y.rest, x.rest]⟩
section
variable {G : Gl} {f : Str} {K : Sx} {np : Nat} {sts : List Stmt} {xs : List V} {σ : Ow} {A : Around} {F : Fz} {s : Shared} {vs : List Value} {R : Result → Shared → Prop} {Q : KS}
theorem enter_core {fa : Addr} (FA : FnO G.B fa K np sts) (hlen : xs.length = np) (hd : 0 < G.d) (k : Rm G A F s) (r : RelL F xs vs) (hσ : ∀ a xs, σ a = some xs → F a = none ∧ ∃ vs n, s.heap.get? a = some (lobj vs n) ∧ RelL F xs vs)
    (body : ∀ env s₁, FOk G.dn K (A.deeper env) env (xs ++ List.replicate (K.ns.length - np) .unb) σ F s₁ → St N0 F s F s₁ → (∀ b, Own env b → s.heap.get? b = none) → (∀ q o, s.heap.get? q = some o → NoFr A q → NoFr (A.deeper env) q) →
      wpAny G.M (A.deeper env) (execs sts env) (fun f s' => R (.ok (.ret (match f with | .ret v => v | _ => .none))) s') (fun e s' => wpAny G.M (A.deeper env) (leaving env e) (fun _ s'' => R (.error e) s'') (fun e' s'' => R (.error e') s'') s') s₁) :
    codeAny G.M A (.call (.ref fa) ⟨vs, []⟩) R s := by
  obtain ⟨⟨o, fd, ho, hdat, hcd, hbody, hclo, hglob, hblt, hbind, hsc⟩, chk⟩ := FA
  unfold fnChk at chk
  simp only [Bool.and_eq_true, Bool.not_eq_true', beq_iff_eq, decide_eq_true_eq] at chk
  obtain ⟨⟨⟨⟨⟨⟨hco, hgen⟩, hk⟩, hkinds⟩, hcn⟩, hnd⟩, hnp⟩ := chk
  have hvl : vs.length = np := r.length.trans hlen
  have htl : (K.ns.take np).length = np := by rw [List.length_take]; exact Nat.min_eq_left hnp
  have hpn : (K.ns.take np).Nodup := hnd.sublist (List.take_sublist ..)
  have hkind : ∀ x ∈ K.ns, K.sc.names.lookup x = some .local ∨ K.sc.names.lookup x = some .cell := fun x hx => (Bool.or_eq_true_iff.mp (List.all_eq_true.mp hkinds x hx)).imp eq_of_beq eq_of_beq
  have hcs : ∀ n x, K.sc.names.lookup x = some .cell → ((cellsFrom n K.sc.names []).lookup x).isSome = true := fun n x hc => PySem.W.cellsFrom_some _ _ _ (.inl hc)
  rw [← hsc] at hco hgen hk
  refine codeAny_call_cells (by have := k.depth; (exact a359 this hd)) (k.in _ _ ho) hdat (k.go.nolimit.keeps k.in) (hcd.keeps k.in) hbody (hbind vs hvl) hclo (fun x hx => ?_) (fun s₁ x => ?_) hco hgen hk
  · rw [hsc]
    exact (hkind x.1 (List.mem_of_mem_take (List.of_mem_zip (show (x.1, x.2) ∈ (K.ns.take np).zip vs from hx)).1)).imp id fun q => ⟨q, hcs _ _ q⟩
  obtain ⟨h₁, tk, rfl⟩ := x.toInCall.same
  have S₁ : St N0 F s F { s with heap := h₁, toks := tk } := .grow k.sub x.toInCall.keep
  have out : ∀ {a : Addr}, s.heap.get? a = none → F a = none := fun {a} h => by
    cases q : F a with
    | none => rfl
    | some o => exact nomatch h.symm.trans (k.sub _ _ q)
  have hLn : s.heap.get? (callEnvC fd s.heap.objs.size fa).locals = none := size_none _
  have hCn : ∀ y c, (y, c) ∈ (callEnvC fd s.heap.objs.size fa).cells → s.heap.get? c = none := fun y c hm => by
    cases q : s.heap.get? c with
    | none => rfl
    | some o' => exact absurd (Heap.lt_size q) (Nat.not_lt.mpr (Nat.le_of_lt (x.above y c hm)))
  have hcn' : ((callEnvC fd s.heap.objs.size fa).cells.map (·.1)).Nodup := by
    show ((cellsFrom (s.heap.objs.size + 1) fd.scope.names []).map (·.1)).Nodup
    rw [hsc, cellsFrom_keys K.sc.names (s.heap.objs.size + 1) 0 [] [] rfl]; exact hcn
  have cell : ∀ y, K.sc.names.lookup y = some .cell → ∃ c, (callEnvC fd s.heap.objs.size fa).cells.lookup y = some c := fun y hc => by
    show ∃ c, (cellsFrom (s.heap.objs.size + 1) fd.scope.names []).lookup y = some c
    rw [hsc]; exact Option.isSome_iff_exists.mp (hcs _ y hc)
  have k₁ : FOk G.dn K (A.deeper (callEnvC fd s.heap.objs.size fa)) (callEnvC fd s.heap.objs.size fa) (xs ++ List.replicate (K.ns.length - np) .unb) σ F { s with heap := h₁, toks := tk } := by
    refine ⟨⟨⟨⟨k.go.g, k.go.b, k.go.nolimit, k.go.blt⟩, k.base, S₁.sub, ?_, ?_, k.handled, ?_⟩, hsc, hk, hglob, hblt, fun a xs q => (hσ a xs q).imp id fun t => t.imp fun _ t => t.imp fun _ t => ⟨x.toInCall.keep _ _ t.1, t.2⟩,
      ⟨by rw [List.length_append, List.length_replicate, hlen]; (exact a64 hnp), out hLn, _, x.toInCall.ns, fun i y v hy hv => ?_⟩⟩, k.frames.imp fun _ q => Around.frames_deeper q.1, x.apart, hnd, fun y c hm => ⟨⟨_, x.cell y c (lookup_of_mem hcn' hm)⟩, out (hCn y c hm)⟩⟩
    · have := k.depth; show A.depth + 1 + (G.d - 1) ≤ recursionLimit; (exact a379 this hd)
    · have := k.units; show A.units + 3 + 10 * (G.d - 1) + 100 ≤ cLine; (exact a382 this hd)
    · obtain ⟨l, hl, hfr⟩ := k.frames
      refine ⟨_, Around.frames_deeper hl, fun env' m => (List.mem_cons.mp m).elim (fun e => ?_) fun m => (hfr.step S₁) env' m⟩
      subst e
      exact ⟨by rw [show (callEnvC fd s.heap.objs.size fa).scope.kind = .function from hk]; decide, _, rfl, out hLn, x.toInCall.ns.imp fun o t => t.imp fun es t => t.imp fun n t => ⟨t.1, t.2.1⟩⟩
    · have ek : (callEnvC fd s.heap.objs.size fa).kindOf y = K.sc.names.lookup y := by show fd.scope.names.lookup y = _; rw [hsc]
      by_cases hi : i < np
      · rw [List.getElem?_append_left (by rw [hlen]; exact hi)] at hv
        obtain ⟨w, hw, rw'⟩ := r.get hv
        have hb := bind_hit (kindOf := (callEnvC fd s.heap.objs.size fa).kindOf) (m := fun _ => none) hpn (by rw [List.getElem?_take, if_pos hi]; exact hy) hw
        refine ⟨fun hl => ?_, fun hc => (cell y hc).imp fun c hcc => ⟨some w, hcc, ?_, relO_some rw', out (hCn y c (mem_of_lookup hcc))⟩⟩
        · rw [hb.1 (ek.trans hl)]; exact relO_some rw'
        · rw [← hb.2 (by rw [ek, hc]; decide)]; exact x.cell y c hcc
      · rw [List.getElem?_append_right (by rw [hlen]; (exact a47 hi))] at hv
        obtain ⟨_, hv⟩ := List.getElem?_eq_some_iff.mp hv
        rw [List.getElem_replicate] at hv
        subst hv
        exact ⟨fun _ h => absurd rfl h, fun hc => (cell y hc).imp fun c hcc => ⟨_, hcc, x.cell y c hcc, fun h => absurd rfl h, out (hCn y c (mem_of_lookup hcc))⟩⟩
  refine body _ _ k₁ S₁ (fun b hb => hb.elim (fun e => e ▸ hLn) fun q => q.elim fun y hy => hCn y b hy) fun q oq e hA l hl env' m hq => ?_
  obtain ⟨l₀, hl₀, _⟩ := k.frames
  cases (Around.frames_deeper hl₀).symm.trans hl
  rcases List.mem_cons.mp m with rfl | m
  · cases show some (callEnvC fd s.heap.objs.size fa).locals = some q from hq
    exact nomatch hLn.symm.trans e
  · exact hA l₀ hl₀ env' m hq
theorem enter_ok {fa : Addr} (FA : FnO G.B fa K np sts) (hlen : xs.length = np) (hd : 0 < G.d) (h : WS G.dn K sts (xs ++ List.replicate (K.ns.length - np) .unb) σ Q) (k : Rm G A F s) (r : RelL F xs vs) (hσ : ∀ a xs, σ a = some xs → F a = none ∧ ∃ vs n, s.heap.get? a = some (lobj vs n) ∧ RelL F xs vs)
    (fin : ∀ fl v σ' F' s', FlRel F' (.ret v) fl ∨ (fl = .next ∧ v = .none) → (∀ a xs, σ' a = some xs → F' a = none ∧ ∃ vs n, s'.heap.get? a = some (lobj vs n) ∧ RelL F' xs vs) → St (fun a => ∃ xs, σ a = some xs) F s F' s' → (∀ b xs, σ' b = some xs → (∃ ys, σ b = some ys) ∨ s.heap.get? b = none) → (∃ ρ, Q fl ρ σ') → R (.ok (.ret v)) s') :
    codeAny G.M A (.call (.ref fa) ⟨vs, []⟩) R s := by
  refine enter_core FA hlen hd k r hσ fun env s₁ k₁ S₁ hown _ => wpAny_mono (h _ _ _ _ _ k₁) (fun f' s' hp => hp.casesOn fun fl ρ' σ' F' hf k' L q => ?_) fun _ _ e => e
  have S : St (fun a => ∃ xs, σ a = some xs) F s F' s' := S₁.then L.S fun b o e q => q.elim (fun q => nomatch e.symm.trans (hown b q)) id
  cases f' <;> cases fl <;> first | exact hf.elim | skip
  · exact fin .next .none σ' F' s' (.inr ⟨rfl, rfl⟩) k'.e.own S (fun b xs q => (L.d b xs q).imp id S₁.dead) ⟨ρ', q⟩
  · exact fin _ _ σ' F' s' (.inl hf) k'.e.own S (fun b xs q => (L.d b xs q).imp id S₁.dead) ⟨ρ', q⟩
theorem dl {G : Gl} {a b : Nat} (h : b ≤ G.d) (hab : a + 1 ≤ b := by decide) : a ≤ G.dn.d := Nat.le_sub_of_add_le (Nat.le_trans hab h)
theorem dl0 {G : Gl} {b : Nat} (h : b ≤ G.d) (hab : 2 ≤ b := by decide) : 0 < G.dn.d := Nat.le_sub_of_add_le (Nat.le_trans hab h)
theorem pureO_of {fa : Addr} (FA : FnO G.B fa K np sts) {P : V → Prop} (hlen : xs.length = np) (hd : 0 < G.d) (h : WS G.dn K sts (xs ++ List.replicate (K.ns.length - np) .unb) σ0 (retP P)) : ∀ A F s E vs, Rm G A F s → RelL F xs vs → wpAny G.M A (call (.ref fa) vs) (fun v s' => ∃ z, P z ∧ PV F s z v s') E s := fun A F s E vs k r =>
  wpAny_call (enter_ok FA hlen hd h k r (fun _ _ q => nomatch q) fun fl v σ' F' s' hf own S d q => by
    classical
    let F₂ : Fz := fun b => match F' b with | some o => some o | none => if ∃ xs, σ' b = some xs then s'.heap.get? b else none
    have up : ∀ a o, F' a = some o → F₂ a = some o := fun a o e => by show (match F' a with | some o => some o | none => _) = _; rw [e]
    have at_ : ∀ a xs, σ' a = some xs → F₂ a = s'.heap.get? a := fun a xs q => by
      show (match F' a with | some o => some o | none => _) = _
      rw [(own a xs q).1]; exact if_pos ⟨xs, q⟩
    have back : ∀ a o, F₂ a = some o → F' a = some o ∨ ((∃ xs, σ' a = some xs) ∧ s'.heap.get? a = some o) := fun a o e => by
      revert e
      show (match F' a with | some o => some o | none => if ∃ xs, σ' a = some xs then s'.heap.get? a else none) = _ → _
      cases F' a with
      | some o' => exact fun e => .inl e
      | none => exact fun e => (Classical.em (∃ xs, σ' a = some xs)).elim (fun h => .inr ⟨h, (if_pos h).symm.trans e⟩) fun h => nomatch (if_neg h).symm.trans e
    have S₂ : St N0 F s F₂ s' := ⟨fun a o e => up a o (S.up a o e), fun a o e => (back a o e).elim (S.sub a o) (·.2), fun b o e _ => S.keepO b o e fun q => q.elim fun _ q => (nomatch q), S.live,
      fun b o e => (back b o e).elim (S.new b o) fun q => q.1.elim fun xs q => (d b xs q).elim (fun q => q.elim fun _ q => (nomatch q)) .inr, S.rest⟩
    obtain ⟨ρ, q⟩ := q
    rcases hf with hf | ⟨rfl, rfl⟩
    · cases fl with
      | next => exact hf.elim
      | ret x => exact q.imp fun z q => ⟨q.2, F₂, S₂, Res.rel up (fun a xs q => (own a xs q).2.imp fun vs t => t.imp fun n t => ⟨(at_ a xs q).trans t.1, t.2⟩) q.1 hf⟩
    · exact ⟨.none, q, F₂, S₂, rfl⟩)
theorem purep_of (FA : FnAt G.B G.mg f K np sts) {P : V → Prop} (hlen : xs.length = np) (hd : 0 < G.d) (h : WS G.dn K sts (xs ++ List.replicate (K.ns.length - np) .unb) σ0 (retP P)) : PureP G f xs P :=
  ⟨FA.obj.imp fun _ q => q.imp fun _ q => ⟨q.1, q.2.1, q.2.2.1⟩, pureO_of FA.o hlen hd h⟩
theorem pure_of (FA : FnAt G.B G.mg f K np sts) {z : V} (hlen : xs.length = np) (hd : 0 < G.d) (h : WS G.dn K sts (xs ++ List.replicate (K.ns.length - np) .unb) σ0 (retQ z)) : Pure G f xs z :=
  have := purep_of (P := (· = z)) FA hlen hd (ws_mono h fun fl ρ σ q => by cases fl; exact q.symm; exact ⟨z, q, rfl⟩)
  ⟨this.is, fun A F s E vs k r => wpAny_mono (this.run A F s E vs k r) (fun _ _ q => q.elim fun _ q => q.1 ▸ q.2) fun _ _ e => e⟩
theorem proc_of (FA : FnAt G.B G.mg f K np sts) {a : Addr} {acc acc' : List V} (hlen : xs.length = np) (hd : 0 < G.d) (h : WS G.dn K sts (xs ++ List.replicate (K.ns.length - np) .unb) (σ1 a acc) (procQ a acc')) : Proc G f xs a acc acc' :=
  ⟨FA.obj.imp fun _ q => q.imp fun _ q => ⟨q.1, q.2.1, q.2.2.1⟩, fun A F s E vs us n k r hF hu ru => wpAny_call (enter_ok FA.o hlen hd h k r (fun b ys q => by
      by_cases e : b = a
      · subst e; cases (Ow.set_self ..).symm.trans q; exact ⟨hF, us, n, hu, ru⟩
      · exact nomatch (Ow.set_ne _ _ e).symm.trans q) fun fl v σ' F' s' hf own S d q => q.elim fun ρ q => (own a acc' q).2.elim fun us' t => t.elim fun n' t =>
    ⟨F', us', n', S.weaken fun b o _ q => q.elim fun ys q => Classical.byContradiction fun e => (nomatch (Ow.set_ne _ _ e).symm.trans q), t.1, t.2⟩)⟩
theorem ws_asgP {ρ : List V} {es : List PySem.Expr} {ss : List Stmt} {P : V → Prop} {n : Str} {p q q' pc : Pos} (i : Nat) (h : PureP G f xs P) (ha : EvL G K ρ σ es xs) (h2 : ∀ z, P z → WS G K ss (ρ.set i z) σ Q) (hs : es.all notStar = true := by rfl) (hg : globOK K f = true := by decide +kernel) (hx : nameOK K i n = true := by decide +kernel) :
    WS G K (.Assign [.Name n q] (.Call (.Name f q') es [] pc) p :: ss) ρ σ Q :=
  ws_cons fun A env F s E k => wpAny_Assign_Name (by
    obtain ⟨o, fd, hf, ho, hfd⟩ := h.is
    refine wpAny_Call_NameR (name_global k.e (.inl hf) hg ?_)
    rw [back_star pc env hs]
    refine Calls.callWith_function (evalArgs_list (all_false es env) (ha.bind k.e fun vs F₁ s₁ S₁ r₁ k₁ => ⟨⟨k₁.rm.in _ _ ho, hfd⟩, wpAny_mono (h.run A F₁ s₁ E vs k₁.rm r₁) (fun v s₂ q => ?_) fun _ _ e => e⟩))
    obtain ⟨z, hz, F₂, S₂, r₂⟩ := q
    have S := S₁.trans S₂
    exact store_ok (k.step S) hx r₂ fun h' t k₂ L _ => ⟨.next, _, σ, F₂, trivial, k₂, S.lk.trans L, h2 z hz⟩) rfl
end
end Mine

set_option autoImplicit false
set_option linter.all false
set_option genSizeOf false
set_option genInjectivity false
set_option maxRecDepth 100000
namespace Mine
open PySem PyProof.Rows

/-! ## list comprehensions -/
def relabelS (scope sc : Scope) : Scope :=
  { scope with names := scope.names.map fun (n, k) => if (k == .free && sc.kind == .function && sc.names.lookup n == some .cell) then (n, .cell) else (n, k) }
def nm (K : Sx) (i : Nat) : Str := K.ns.getD i Str.empty
def compChk (K : Sx) (caps : List Nat) (ys : List Str) (scope : Scope) : Bool :=
  scope.kind == .function && scope.names.all (fun x => x.2 != .cell) && scope.names.all (fun x => x.2 != .local || scope.names.lookup x.1 == some .local) && (ys.all fun y => scope.names.lookup y == some .local) &&
  caps.all (fun i => decide (i < K.ns.length) && (relabelS scope K.sc).names.lookup (nm K i) == some .cell) && scope.names.all (fun x => x.2 != .free || (K.sc.names.lookup x.1 == some .cell && K.ns.contains x.1))
def Sx.comp (K : Sx) (caps : List Nat) (ys : List Str) (scope : Scope) : Sx := ⟨relabelS scope K.sc, caps.map (nm K) ++ ys⟩
def ρc (ρ : List V) (caps : List Nat) (xs : List V) : List V := caps.map (fun i => ρ.getD i .unb) ++ xs
structure CompOk (K : Sx) (caps : List Nat) (ys : List Str) (scope : Scope) : Prop where
  kind : scope.kind = .function
  nocell : ∀ x ∈ scope.names, x.2 ≠ .cell
  locals : ∀ x ∈ scope.names, x.2 = .local → scope.names.lookup x.1 = some .local
  tgt : ∀ y ∈ ys, scope.names.lookup y = some .local
  caps : ∀ i ∈ caps, i < K.ns.length ∧ (relabelS scope K.sc).names.lookup (nm K i) = some .cell
  free : ∀ x ∈ scope.names, x.2 = .free → K.sc.names.lookup x.1 = some .cell ∧ x.1 ∈ K.ns
theorem compOk_of {K : Sx} {caps : List Nat} {ys : List Str} {scope : Scope} (h : compChk K caps ys scope = true) : CompOk K caps ys scope := by
  unfold compChk at h
  simp only [Bool.and_eq_true, beq_iff_eq, List.all_eq_true, Bool.or_eq_true, bne_iff_ne, ne_eq, decide_eq_true_eq, List.contains_iff_mem] at h
  obtain ⟨⟨⟨⟨⟨h1, h2⟩, h3⟩, h4⟩, h5⟩, h6⟩ := h
  exact ⟨h1, h2, fun x hx e => (h3 x hx).elim (fun q => absurd e q) id, h4, h5, fun x hx e => (h6 x hx).elim (fun q => absurd e q) id⟩
def closL (env : Env) : List (Str × NameKind) → List (Str × Addr) → List (Str × Addr)
  | [], acc => acc
  | (n, k) :: r, acc => if k == .free then closL env r ((n, (env.cells.lookup n).getD 0) :: acc) else closL env r acc
theorem closure_eq {env : Env} {scope : Scope} (h : ∀ x ∈ scope.names, x.2 = .free → ∃ c, env.cells.lookup x.1 = some c) : closureFor scope env = pure (closL env scope.names []) := by
  have key : ∀ (l : List (Str × NameKind)) (acc : List (Str × Addr)), (∀ x ∈ l, x.2 = .free → ∃ c, env.cells.lookup x.1 = some c) →
      (forIn l acc fun (x : Str × NameKind) (r : List (Str × Addr)) => (if (x.2 == .free) = true then do let a ← cellOf env x.1; pure (ForInStep.yield ((x.1, a) :: r)) else pure (ForInStep.yield r) : Sem (ForInStep (List (Str × Addr))))) = pure (closL env l acc) := by
    intro l
    induction l with
    | nil => intro acc _; rfl
    | cons a l ih =>
      intro acc hl
      obtain ⟨n, k⟩ := a
      rw [List.forIn_cons]
      unfold closL
      by_cases hk : (k == .free) = true
      · obtain ⟨c, hc⟩ := hl (n, k) (List.mem_cons_self ..) (eq_of_beq hk)
        have hc' : env.cells.lookup n = some c := hc
        simp only [hk, if_true, cellOf, hc', pure_bind, Option.getD_some]
        exact ih _ fun x hx => hl x (List.mem_cons_of_mem _ hx)
      · simp only [hk, pure_bind, Bool.false_eq_true, if_false]
        exact ih _ fun x hx => hl x (List.mem_cons_of_mem _ hx)
  have := key scope.names [] h
  unfold closureFor
  have e2 : ∀ (t : Sem (List (Str × Addr))), t = pure (closL env scope.names []) → (t >>= fun cs => (pure cs : Sem (List (Str × Addr)))) = pure (closL env scope.names []) := fun t e => by rw [e]; rfl
  exact e2 _ this
theorem closL_look {env : Env} : ∀ (l : List (Str × NameKind)) (acc : List (Str × Addr)) (n : Str) (c : Addr), env.cells.lookup n = some c → (∀ d, acc.lookup n = some d → d = c) → ((n, NameKind.free) ∈ l ∨ acc.lookup n = some c) → (closL env l acc).lookup n = some c
  | [], acc, n, c, _, _, h => h.elim (fun h => nomatch h) id
  | (y, k) :: r, acc, n, c, hc, ha, h => by
    have rest : (n, NameKind.free) ∈ r ∨ acc.lookup n = some c → (closL env r acc).lookup n = some c := closL_look r acc n c hc ha
    unfold closL
    split
    · rename_i hk
      have hk := eq_of_beq hk
      by_cases hy : n = y
      · subst hy
        have e : (((n, (env.cells.lookup n).getD 0) :: acc).lookup n) = some c := by rw [List.lookup_cons_self, hc]; rfl
        exact closL_look r _ n c hc (fun d hd => Option.some.inj (hd.symm.trans e)) (.inr e)
      · have e : (((y, (env.cells.lookup y).getD 0) :: acc).lookup n) = acc.lookup n := by rw [List.lookup_cons, beq_false_of_ne hy]
        exact closL_look r _ n c hc (fun d hd => ha d (e.symm.trans hd)) (h.imp (fun h => (List.mem_cons.mp h).elim (fun q => absurd (congrArg Prod.fst q) hy) id) fun h => e.trans h)
    · rename_i hk
      exact rest (h.imp (fun h => (List.mem_cons.mp h).elim (fun q => absurd (by cases q; rfl) hk) id) id)
theorem relabel_cell {sc : Scope} : ∀ {names : List (Str × NameKind)} {x : Str}, (∀ y ∈ names, y.2 ≠ .cell) →
    (names.map fun (n, k) => if (k == NameKind.free && sc.kind == .function && sc.names.lookup n == some .cell) then (n, NameKind.cell) else (n, k)).lookup x = some .cell → (x, NameKind.free) ∈ names
  | (n, k) :: r, x, hc, h => by
    rw [List.map_cons] at h
    by_cases hk : (k == NameKind.free && sc.kind == .function && sc.names.lookup n == some .cell) = true
    · simp only [hk, if_true, List.lookup_cons] at h
      split at h
      · rename_i e
        cases eq_of_beq e
        rw [eq_of_beq (Bool.and_eq_true_iff.mp (Bool.and_eq_true_iff.mp hk).1).1]
        exact List.mem_cons_self ..
      · exact List.mem_cons_of_mem _ (relabel_cell (fun y hy => hc y (List.mem_cons_of_mem _ hy)) h)
    · simp only [hk, Bool.false_eq_true, if_false, List.lookup_cons] at h
      split at h
      · cases h; exact absurd rfl (hc (n, .cell) (List.mem_cons_self ..))
      · exact List.mem_cons_of_mem _ (relabel_cell (fun y hy => hc y (List.mem_cons_of_mem _ hy)) h)
theorem St.priv {D : Addr → Prop} {F₀ F : Fz} {s₀ s : Shared} {r : Addr} {h' : Heap} {t : Nat} (S : St D F₀ s₀ F s) (hq : F r = none) (h0 : s₀.heap.get? r = none) (hs : Heap.ExtBut r s.heap h') : St D F₀ s₀ F { s with heap := h', toks := t } :=
  have ne : ∀ b o, s₀.heap.get? b = some o → b ≠ r := fun b o e => by rintro rfl; exact nomatch h0.symm.trans e
  ⟨S.up, fun a o e => hs a o (by rintro rfl; exact nomatch hq.symm.trans e) (S.sub a o e), fun b o e d => (S.keepO b o e d).imp fun o' q => ⟨hs b o' (ne b o e) q.1, q.2⟩, fun b o e => (S.live b o e).imp fun o' e' => ⟨hs b o' (ne b o e) e'.1, e'.2⟩, S.new, by rw [S.rest]⟩
theorem Rm.out {G : Gl} {A : Around} {F : Fz} {s : Shared} (R : Rm G A F s) {a : Addr} (h : s.heap.get? a = none) : F a = none := by
  cases q : F a with
  | none => rfl
  | some o => exact nomatch h.symm.trans (R.sub _ _ q)

section
variable {G : Gl} {K : Sx} {A : Around} {env : Env} {ρ : List V} {σ : Ow} {F : Fz} {s : Shared} {E : Value → Shared → Prop} {caps : List Nat} {y : Str} {scope : Scope} {e' it₀ : PySem.Expr} {py p q : Pos} {ifs : List PySem.Expr} {x : V} {xs : List V}
theorem comp_cell {ys : List Str} (O : CompOk K caps ys scope) (k : EOk G K A env ρ σ F s) {z : Str} (hz : (z, NameKind.free) ∈ scope.names) : ∃ (i : Nat) (v : V) (c : Addr) (ov : Option Value), K.ns[i]? = some z ∧ ρ[i]? = some v ∧ env.cells.lookup z = some c ∧ s.heap.IsCell c ov ∧ RelO F v ov ∧ F c = none := by
  obtain ⟨h1, h2⟩ := O.free _ hz rfl
  obtain ⟨mm, _, vars⟩ := k.loc.vars
  obtain ⟨i, hi, e⟩ := List.getElem_of_mem h2
  have hi' : K.ns[i]? = some z := by rw [List.getElem?_eq_getElem hi, e]
  have hl : i < ρ.length := by rw [k.loc.len]; exact hi
  obtain ⟨c, ov, g⟩ := (vars i z _ hi' (List.getElem?_eq_getElem hl)).2 h1
  exact ⟨i, _, c, ov, hi', List.getElem?_eq_getElem hl, g⟩
theorem comp_env {C : Addr} {mC : Str → Option Value} {ys : List Str} {xs : List V} (O : CompOk K caps ys scope) (k : EOk G K A env ρ σ F s) (hn : s.heap.Ns C mC) (hF : F C = none) (hlen : xs.length = ys.length) (hv : ∀ (j : Nat) y x, ys[j]? = some y → xs[j]? = some x → ∃ v, mC y = some v ∧ Rel F x v) :
    EOk G (K.comp caps ys scope) A (compEnvC scope (closL env scope.names []) C env) (ρc ρ caps xs) σ F s := by
  have hrel : relabel scope env = relabelS scope K.sc := by unfold relabel relabelS; rw [← k.sc]; rfl
  refine ⟨k.rm, hrel, by show (relabel scope env).kind = _; exact O.kind, k.globals, k.builtins, k.own, ⟨by simp [ρc, Sx.comp, hlen], hF, mC, hn, fun i z w hz hw => ?_⟩⟩
  by_cases hi : i < caps.length
  · unfold ρc at hw
    unfold Sx.comp at hz
    rw [List.getElem?_append_left (by simpa using hi)] at hw
    rw [List.getElem?_append_left (by simpa using hi)] at hz
    rw [List.getElem?_map, List.getElem?_eq_getElem hi] at hz hw
    cases hz; cases hw
    obtain ⟨hc1, hc2⟩ := O.caps _ (List.getElem_mem hi)
    refine ⟨fun hl => (nomatch hc2.symm.trans hl), fun _ => ?_⟩
    have hf := relabel_cell O.nocell hc2
    obtain ⟨j, v', c, ov, h1, h2, h3, h4, h5, h6⟩ := comp_cell O k hf
    refine ⟨c, ov, closL_look _ _ _ c h3 (fun d hd => nomatch hd) (.inl hf), h4, ?_, h6⟩
    have hl : caps[i] < ρ.length := by rw [k.loc.len]; exact hc1
    obtain ⟨mm, _, vars⟩ := k.loc.vars
    have hnm : K.ns[caps[i]]? = some (nm K caps[i]) := by unfold nm; rw [List.getD_eq_getElem?_getD, List.getElem?_eq_getElem hc1]; rfl
    obtain ⟨c', ov', q1, q2, q3, _⟩ := (vars caps[i] _ _ hnm (List.getElem?_eq_getElem hl)).2 (O.free _ hf rfl).1
    cases h3.symm.trans q1
    obtain ⟨o1, e1, d1⟩ := h4
    obtain ⟨o2, e2, d2⟩ := q2
    cases e1.symm.trans e2
    cases d1.symm.trans d2
    show RelO F (ρ.getD caps[i] .unb) ov
    rw [List.getD_eq_getElem?_getD, List.getElem?_eq_getElem hl]; exact q3
  · unfold ρc at hw
    unfold Sx.comp at hz
    rw [List.getElem?_append_right (by simpa using hi)] at hw hz
    rw [List.length_map] at hw hz
    have hk : (relabelS scope K.sc).names.lookup z = some .local := by rw [← hrel]; exact lookup_relabel_local (O.tgt z (List.mem_of_getElem? hz))
    obtain ⟨v, e, r⟩ := hv _ z w hz hw
    exact ⟨fun _ => e ▸ relO_some r, fun hc => nomatch hk.symm.trans hc⟩
/-- what one turn of a comprehension gives -/
def Turn (G : Gl) (K : Sx) (ρ : List V) (σ : Ow) (ifs : List PySem.Expr) (e : PySem.Expr) (r : Option V) : Prop :=
  (ifs = [] ∧ ∃ z, r = some z ∧ Ev G K ρ σ e z) ∨ ∃ c b, ifs = [c] ∧ Tr G K ρ σ c b ∧ (b = true → ∃ z, r = some z ∧ Ev G K ρ σ e z) ∧ (b = false → r = none)
theorem turn_all {ρ' : List V} {z : V} (h : Ev G K ρ' σ e' z) : Turn G K ρ' σ [] e' (some z) := .inl ⟨rfl, z, rfl, h⟩
theorem turn_if {ρ' : List V} {c : PySem.Expr} {b : Bool} {z : V} (h1 : Tr G K ρ' σ c b) (h2 : b = true → Ev G K ρ' σ e' z) : Turn G K ρ' σ [c] e' (if b then some z else none) :=
  .inr ⟨c, b, rfl, h1, fun e => ⟨z, by rw [e]; rfl, h2 e⟩, fun e => by rw [e]; rfl⟩
theorem Turn.test {F₁ : Fz} {s₁ : Shared} {ρ' : List V} {r : Option V} (h : Turn G K ρ' σ ifs e' r) (k : EOk G K A env ρ' σ F₁ s₁) {R : Bool → Shared → Prop} (h1 : ∀ F₂ s₂ z, St N0 F₁ s₁ F₂ s₂ → EOk G K A env ρ' σ F₂ s₂ → r = some z → Ev G K ρ' σ e' z → R true s₂) (h2 : ∀ F₂ s₂, St N0 F₁ s₁ F₂ s₂ → r = none → R false s₂) :
    wpAny G.M A (forIn ifs true fun c r => if r = true then do let ok ← isTrue c env (eval c env); pure (ForInStep.yield ok) else pure (ForInStep.yield r)) R E s₁ := by
  rcases h with ⟨rfl, z, hr, hz⟩ | ⟨c, b, rfl, hc, ht, hf⟩
  · exact wpAny_tests_nil (h1 F₁ s₁ z (.refl k.rm.sub) k hr hz)
  · refine wpAny_tests_one (hc.bind k fun F₂ s₂ S k₂ => ?_)
    cases b
    · exact h2 F₂ s₂ S (hf rfl)
    · exact (ht rfl).elim fun z q => h1 F₂ s₂ z S k₂ q.1 q.2
/-- a comprehension's loop, whatever its target -/
theorem compLoop_rule {prog : Program} {w : World} {R : Result → Shared → Prop} {elt target iter : PySem.Expr} {ifs : List PySem.Expr} {scope : Scope} {pos : Pos} {it acc : Value} {env : Env} {s : Shared} (I : Nat → Shared → Prop)
    (turn : ∀ n s E, I n s → wpAny (model prog w) A (pyNext it) (fun r s₁ => match r with
      | none => R (.ok .next) s₁
      | some v => wpAny (model prog w) A (letOwnedTupleGo target it v) (fun _ s₁' => wpAny (model prog w) A (assign target env v) (fun _ s₂ =>
          wpAny (model prog w) A (forIn ifs true fun c r => if r = true then do let ok ← isTrue c env (eval c env); pure (ForInStep.yield ok) else pure (ForInStep.yield r)) (fun ok s₃ =>
            if ok = true then wpAny (model prog w) A (eval elt env) (fun x s₄ => wpAny (model prog w) A (call (.builtin "list.append") [acc, x]) (fun _ s₅ => ∃ m, m < n ∧ I m s₅) E s₄) E s₃ else ∃ m, m < n ∧ I m s₃) E s₂) E s₁') E s₁) E s)
    (n : Nat) (h : I n s) : codeAny (model prog w) A (.compLoop (.ListComp elt [⟨target, iter, ifs, 0⟩] scope pos) 0 it acc env) R s := by
  refine codeAny_loop rfl I (fun n s hI => ?_) n h
  show wpAny _ A ((compTurn (.ListComp elt [⟨target, iter, ifs, 0⟩] scope pos) 0 it acc env).onRaise (fun x => do noteFrame x env; theTreesLotGoes x)) _ _ s
  refine wpAny_noted ?_
  rw [compTurn_list]
  refine wpAny_bind (wpAny_standAt (wpAny_bind (wpAny_mono (turn n s _ hI) (fun r s₁ h₁ => ?_) fun _ _ h' => h')))
  cases r with
  | none => exact wpAny_pure h₁
  | some v =>
    refine wpAny_bind (wpAny_mono h₁ (fun _ s₁' h₂ => wpAny_bind (wpAny_mono h₂ (fun _ s₂ h₂ => wpAny_bind (wpAny_mono h₂ (fun ok s₃ h₃ => ?_) fun _ _ h' => h')) fun _ _ h' => h')) fun _ _ h' => h')
    cases ok with
    | false => exact wpAny_pure ⟨rfl, h₃⟩
    | true => exact wpAny_bind (wpAny_bind (wpAny_mono h₃ (fun x s₄ h₄ => wpAny_bind (wpAny_mono h₄ (fun _ s₅ h₅ => wpAny_pure (wpAny_pure ⟨rfl, h₅⟩)) fun _ _ h' => h')) fun _ _ h' => h'))
/-- the target of a comprehension: a name, or two -/
inductive Tg (K : Sx) : PySem.Expr → List Str → V → List V → Prop
  | one (y : Str) (p : Pos) (x : V) : Tg K (.Name y p) [y] x [x]
  | two (y z : Str) (p q r : Pos) (kk : Nat) (x w : V) (h : y ≠ z) : Tg K (.Tuple [.Name y p, .Name z q] kk r) [y, z] (.tup [x, w]) [x, w]
theorem Tg.assign {t : PySem.Expr} {ys : List Str} {x : V} {xs : List V} {cenv : Env} {m : Str → Option Value} {v : Value} {R : Unit → Shared → Prop} (h : Tg K t ys x xs) (hh : A.handled = none) (sub : ∀ a o, F a = some o → s.heap.get? a = some o) (hl : ∀ y ∈ ys, cenv.kindOf y = some .local) (hp : (cenv.scope.kind == .class || (cenv.scope.kind == .module && cenv.locals != cenv.globals)) = false) (hn : s.heap.Ns cenv.locals m) (hF : F cenv.locals = none) (r : Rel F x v)
    (k : ∀ h' tk m', h'.Ns cenv.locals m' → xs.length = ys.length → (∀ (j : Nat) y x, ys[j]? = some y → xs[j]? = some x → ∃ v, m' y = some v ∧ Rel F x v) → (∀ b o, b ≠ cenv.locals → s.heap.get? b = some o → h'.get? b = some o) → R () { s with heap := h', toks := tk }) : wpAny G.M A (assign t cenv v) R E s := by
  cases h with
  | one y p => exact wpAny_assign_Name (wpAny_storeName_local (hl y (List.mem_cons_self ..)) hn (fun h' hn' hs' => k h' _ _ hn' rfl (fun j z w hz hw => by
      cases j with
      | zero => cases hz; cases hw; exact ⟨v, if_pos rfl, r⟩
      | succ j => cases hz) hs'.extBut) hp)
  | two y z p q rr kk x w hne =>
    obtain ⟨a, _, rfl, ⟨n', e⟩, v, _, rfl, r1, u, _, rfl, r2, rfl⟩ := r
    refine wpAny_assign_Tuple hh ⟨_, sub _ _ e, rfl, n', rfl⟩ rfl rfl fun h₁ hs => ?_
    have hg : ∀ b o, s.heap.get? b = some o → h₁.get? b = some o := fun b o e => hs b o (Nat.ne_of_lt (Heap.lt_size e)) e
    refine wpAny_assignInOrder_more (wpAny_assign_Name (wpAny_storeName_local (hl y (List.mem_cons_self ..)) (ns_keep hn fun o e => hg _ o e) (fun h₂ hn₂ hs₂ => ?_) hp))
    refine wpAny_assignInOrder_more (wpAny_assign_Name (wpAny_storeName_local (hl z (List.mem_cons_of_mem _ (List.mem_cons_self ..))) hn₂ (fun h₃ hn₃ hs₃ => ?_) hp))
    refine wpAny_pure (k h₃ _ _ hn₃ rfl (fun j y' x' hy hx => ?_) fun b o hb e => hs₃.extBut b o hb (hs₂.extBut b o hb (hg b o e)))
    match j with
    | 0 => cases hy; cases hx; exact ⟨v, by rw [if_neg hne, if_pos rfl], r1⟩
    | 1 => cases hy; cases hx; exact ⟨u, if_pos rfl, r2⟩
    | j + 2 => cases hy
theorem comp_core {T : Type} {Fv : T → V} {Fw : T → List V} {ys : List Str} {tg : PySem.Expr} {ts : List T} (f : T → Option V) (htg : ∀ t, Tg K tg ys (Fv t) (Fw t)) (hchk : compChk K caps ys scope = true) (hit : Ev G K ρ σ it₀ x) (hi : itemsOf x = some (ts.map Fv)) (hl : ts.length ≤ sizeLine) (hsf : ∀ env x, foldedSetIterable it₀ env x = pure x) (ht : ∀ t ∈ ts, Turn G (K.comp caps ys scope) (ρc ρ caps (Fw t)) σ ifs e' (f t)) (k : EOk G K A env ρ σ F s)
    {use : Option (Value → Sem Unit)} {Qp : Value → Shared → Prop} {gp : Pos}
    (fin : ∀ D C F' s' mC vs n, St N0 F s F' s' → s.heap.get? D = none → s.heap.get? C = none → D ≠ C → F' D = none → F' C = none → s'.heap.get? D = some (lobj vs n) → RelL F' (ts.filterMap f) vs → s'.heap.Ns C mC → compPost G.M A E use Qp (.ref D) C (.ok .next) s') :
    wpAny G.M A (comprehension (.ListComp e' [⟨tg, it₀, ifs, 0⟩] scope p) scope env gp (newList []) false (eval it₀ env) use) Qp E s := by
  have O := compOk_of hchk
  refine wpAny_comprehension_free rfl (hsf env) (closure_eq fun z hz hf => by
    obtain ⟨n, kd⟩ := z
    cases (show kd = .free from hf)
    obtain ⟨_, _, c, _, _, _, h3, _⟩ := comp_cell O k hz
    exact ⟨c, h3⟩) O.kind O.locals (hit.bind k fun cv F₁ s₁ S₁ r₁ k₁ => iter_ok hi k₁.rm r₁ fun ob P W hP => wpAny_newObj_type ?_)
  refine wpAny_newFunctionEnv (closure := closL env scope.names []) O.nocell (by intro z hz; simp at hz) (fun h₁ hns₁ hsb₁ => ?_) O.kind
  dsimp only at hns₁ hsb₁ ⊢
  have hitn : s₁.heap.get? s₁.heap.objs.size = none := size_none _
  generalize s₁.heap.objs.size = it at *
  have up₂ : ∀ b o, s₁.heap.get? b = some o → (s₁.heap.push ob).get? b = some o := fun b o e => Heap.get?_push_of_some _ e
  generalize s₁.heap.push ob = H1 at *
  have hDn : H1.get? H1.objs.size = none := size_none _
  have hD0 : (H1.push { cls := .type "list", dict := none, data := .seq ([] : List Value).toArray }).get? H1.objs.size = some (lobj [] 0) := Heap.get?_push_size _ rfl
  have up₃ : ∀ b o, H1.get? b = some o → (H1.push { cls := .type "list", dict := none, data := .seq ([] : List Value).toArray }).get? b = some o := fun b o e => Heap.get?_push_of_some _ e
  have hCn : (H1.push { cls := .type "list", dict := none, data := .seq ([] : List Value).toArray }).get? (H1.push { cls := .type "list", dict := none, data := .seq ([] : List Value).toArray }).objs.size = none := size_none _
  generalize H1.push { cls := .type "list", dict := none, data := .seq ([] : List Value).toArray } = H2 at *
  generalize H1.objs.size = D at *
  generalize H2.objs.size = C at *
  have dead : ∀ {h h' : Heap} {b : Addr}, (∀ b o, h.get? b = some o → h'.get? b = some o) → h'.get? b = none → h.get? b = none := fun {h h' b} u e => by
    cases q : h.get? b with
    | none => rfl
    | some o => exact nomatch e.symm.trans (u b o q)
  have hDC : D ≠ C := by rintro rfl; exact nomatch hCn.symm.trans hD0
  have hD1 : s₁.heap.get? D = none := dead up₂ hDn
  have hC1 : s₁.heap.get? C = none := dead up₂ (dead up₃ hCn)
  have hs₁ : ∀ b o, b ≠ C → H2.get? b = some o → h₁.get? b = some o := fun b o hb e => hsb₁.extBut b o hb (Heap.get?_push_of_some _ e)
  have up : ∀ b o, s₁.heap.get? b = some o → h₁.get? b = some o := fun b o e => hs₁ b o (by rintro rfl; exact nomatch hC1.symm.trans e) (up₃ b o (up₂ b o e))
  have S₂ : St N0 F₁ s₁ F₁ { s₁ with heap := h₁, toks := s₁.toks + ([] : List (Str × Value)).length } := .grow k₁.rm.sub up
  obtain ⟨oi, T, ivs, hoi, hci, hdi, _⟩ := W.obj _ _ hP
  have hitC : it ≠ C := by rintro rfl; exact nomatch hCn.symm.trans (up₃ _ _ hoi)
  have hitD : it ≠ D := by rintro rfl; exact nomatch hDn.symm.trans hoi
  have hP₂ : P 0 h₁ := W.keep _ _ _ hP (fun a o e => up₂ a o (k₁.rm.sub a o e)) (fun a o e => up a o (k₁.rm.sub a o e)) fun o e => hs₁ it o hitC (up₃ _ _ e)
  have loop : codeAny G.M A (.compLoop (.ListComp e' [⟨tg, it₀, ifs, 0⟩] scope p) 0 (.ref it) (.ref D) (compEnvC scope (closL env scope.names []) C env)) (compPost G.M A E use Qp (.ref D) C) { s₁ with heap := h₁, toks := s₁.toks + ([] : List (Str × Value)).length } := by
    refine compLoop_rule (fun m s' => ∃ i F' mC vs n, m + i = ts.length + 1 ∧ i ≤ ts.length ∧ St N0 F s F' s' ∧ (∀ a o, F₁ a = some o → F' a = some o) ∧ F' it = none ∧ F' D = none ∧ F' C = none ∧ P i s'.heap ∧ s'.heap.get? D = some (lobj vs n) ∧ RelL F' ((ts.take i).filterMap f) vs ∧ s'.heap.Ns C mC) ?_ (ts.length + 1)
      ⟨0, F₁, _, [], 0, rfl, Nat.zero_le _, S₁.trans S₂, fun _ _ e => e, k₁.rm.out hitn, k₁.rm.out hD1, k₁.rm.out hC1, hP₂, hs₁ _ _ hDC hD0, rfl, hns₁⟩
    rintro m s' E' ⟨i, F', mC, vs, n, hm, hile, S', upF, hFi, hFD, hFC, hP', hD', rl, hn'⟩
    have k' := k.step S'
    have sub : ∀ {h : Heap}, (∀ a o, F' a = some o → h.get? a = some o) → ∀ a o, F₁ a = some o → h.get? a = some o := fun h a o e => h a o (upF a o e)
    have sIt := S₁.dead hitn
    have sD := S₁.dead hD1
    have sC := S₁.dead hC1
    rcases Nat.lt_or_ge i ts.length with hlt | hge
    · obtain ⟨z, hz⟩ : ∃ z, ts[i]? = some z := ⟨_, List.getElem?_eq_getElem hlt⟩
      refine W.item i s' _ _ (Fv z) (by rw [List.getElem?_map, hz]; rfl) hP' fun v h₂ t₂ hr hP₂ hs₂ => ?_
      refine owned_go (W.obj _ _ hP₂) ?_
      have S₄ := S'.priv (t := t₂) hFi sIt hs₂
      have hn₂ : h₂.Ns C mC := ns_keep hn' fun o e => hs₂ _ _ hitC.symm e
      refine (htg z).assign (cenv := compEnvC scope (closL env scope.names []) C env) k.rm.handled S₄.sub (fun y hy => lookup_relabel_local (O.tgt y hy)) (by show ((relabel scope env).kind == .class || ((relabel scope env).kind == .module && _)) = false; rw [show (relabel scope env).kind = .function from O.kind]; rfl) hn₂ hFC (hr.mono upF) fun h₃ t₃ m₃ hn₃ hlw hw₃ hs₃ => ?_
      have S₅ := S₄.priv (t := t₃) hFC sC hs₃
      have k₅ := comp_env O (k.step S₅) hn₃ hFC hlw hw₃
      have hP₃ : P (i + 1) h₃ := W.keep _ _ _ hP₂ (sub S₄.sub) (sub S₅.sub) fun o e => hs₃ it o hitC e
      have hD₃ : h₃.get? D = some (lobj vs n) := hs₃ D _ hDC (hs₂ _ _ hitD.symm hD')
      obtain ⟨oi₃, _, _, hoi₃, _⟩ := W.obj _ _ hP₃
      obtain ⟨oC₃, hoC₃⟩ := Ns_obj hn₃
      have ht' := ht z (List.mem_of_getElem? hz)
      have etk : ts.take (i + 1) = ts.take i ++ [z] := by obtain ⟨h1, h2⟩ := List.getElem?_eq_some_iff.mp hz; rw [List.take_succ_eq_append_getElem h1, h2]
      have next : ∀ {F₆ : Fz} {s₆ : Shared} {ws : List Value} {n' : Nat}, St N0 F s F₆ s₆ → (∀ a o, F' a = some o → F₆ a = some o) → F₆ it = none → F₆ D = none → F₆ C = none → (∀ b o, b ≠ D → h₃.get? b = some o → ∃ o', s₆.heap.get? b = some o' ∧ KeepO o o') → s₆.heap.get? D = some (lobj ws n') → RelL F₆ ((ts.take (i + 1)).filterMap f) ws →
          ∃ m', m' < m ∧ ∃ i F' mC vs n, m' + i = ts.length + 1 ∧ i ≤ ts.length ∧ St N0 F s F' s₆ ∧ (∀ a o, F₁ a = some o → F' a = some o) ∧ F' it = none ∧ F' D = none ∧ F' C = none ∧ P i s₆.heap ∧ s₆.heap.get? D = some (lobj vs n) ∧ RelL F' ((ts.take i).filterMap f) vs ∧ s₆.heap.Ns C mC := fun S₆ u6 o1 o2 o3 kp hD₆ rl₆ =>
        ⟨m - 1, by (exact a364 hm hile), i + 1, _, _, _, _, by (exact a381 hm hile), hlt, S₆, fun a o e => u6 a o (upF a o e), o1, o2, o3, W.keep _ _ _ hP₃ (sub S₅.sub) (fun a o e => S₆.sub a o (u6 a o (upF a o e))) fun o e => (kp it o hitD e).elim fun o' q => q.2.elim (fun h => h ▸ q.1) fun h => h.1.elim fun es h => h.elim fun n h => (by obtain ⟨oi', T', vs', h1, _, h3, _⟩ := W.obj _ _ hP₃; rw [show h₃.get? it = some o from e] at h1; cases h1; rw [h3] at h; cases h), hD₆, rl₆, ns_keepO hn₃ fun o e => kp C o hDC.symm e⟩
      refine ht'.test k₅ (fun F₆ s₆ u S₆ k₆ hu hev => ?_) fun F₆ s₆ S₆ hu => ?_
      · rw [if_pos rfl]
        refine hev.bind k₆ fun w F₇ s₇ S₇ r₇ k₇ => ?_
        have S₆₇ := S₆.trans S₇
        have hD₇ := S₆₇.keep D _ hD₃ id (fun _ _ e => nomatch e)
        have rl₇ := RelL.mono S₆₇.up rl
        refine wpAny_list_append_plain ⟨n, hD₇⟩ (fun h₈ hp hs₈ => ?_) (by rw [List.size_toArray, rl.length]; exact Nat.le_trans (List.length_filterMap_le ..) (Nat.le_trans (List.length_take_le ..) (by (exact a404 hlt hl))))
        obtain ⟨n', hp⟩ := hp
        have hp' : h₈.get? D = some (lobj (vs ++ [w]) n') := by rw [hp]; simp [lobj]
        have hFD₇ := S₆₇.out hFD hD₃
        have eq : (ts.take (i + 1)).filterMap f = (ts.take i).filterMap f ++ [u] := by rw [etk, List.filterMap_append]; simp [hu]
        exact next ((S₅.trans S₆₇).priv (t := s₇.toks) hFD₇ sD hs₈.extBut) S₆₇.up (S₆₇.out hFi hoi₃) hFD₇ (S₆₇.out hFC hoC₃) (fun b o hb e => (S₆₇.keepO b o e id).imp fun o' q => ⟨hs₈.extBut b o' hb q.1, q.2⟩) hp' (by rw [eq]; exact rl₇.append (.one r₇))
      · rw [if_neg Bool.false_ne_true]
        refine next (S₅.trans S₆) S₆.up (S₆.out hFi hoi₃) (S₆.out hFD hD₃) (S₆.out hFC hoC₃) (fun b o _ e => S₆.keepO b o e id) (S₆.keep D _ hD₃ id (fun _ _ e => nomatch e)) ?_
        have eq : (ts.take (i + 1)).filterMap f = (ts.take i).filterMap f := by rw [etk, List.filterMap_append]; simp [hu]
        rw [eq]; exact RelL.mono S₆.up rl
    · cases Nat.le_antisymm hile hge
      refine W.done s' _ _ (by rw [List.length_map]; exact hP') fun h₂ t₂ hs₂ => ?_
      rw [List.take_length] at rl
      exact fin D C F' _ mC vs n (S'.priv (t := t₂) hFi sIt hs₂) sD sC hDC hFD hFC (hs₂ _ _ hitD.symm hD') rl (ns_keep hn' fun o e => hs₂ _ _ hitC.symm e)
  exact codeAny_compStart_list loop (W.self _ _ _ _ hP₂ loop)
theorem ev_compT {T : Type} {Fv : T → V} {Fw : T → List V} {ys : List Str} {tg : PySem.Expr} {ts : List T} (f : T → Option V) (htg : ∀ t, Tg K tg ys (Fv t) (Fw t)) (hit : Ev G K ρ σ it₀ x) (hi : itemsOf x = some (ts.map Fv)) (hl : ts.length ≤ sizeLine) (ht : ∀ t ∈ ts, Turn G (K.comp caps ys scope) (ρc ρ caps (Fw t)) σ ifs e' (f t)) (hchk : compChk K caps ys scope = true) (hsf : ∀ env x, foldedSetIterable it₀ env x = pure x) :
    Ev G K ρ σ (.ListComp e' [⟨tg, it₀, ifs, 0⟩] scope p) (.lst (ts.filterMap f)) := fun A env F s E k => by
  rw [eval_ListComp]
  refine comp_core f htg hchk hit hi hl hsf ht k fun D C F' s' mC vs n S hD hC hDC hFD hFC hl' rl hn => ⟨mC, hn, fun h' hs' => ?_⟩
  have hD' : h'.get? D = some (lobj vs n) := by rw [hs'.2 D hDC]; exact hl'
  have S' := S.priv (t := s'.toks) hFC hC hs'.extBut
  exact ⟨_, S'.freeze hD hD' hFD, D, vs, rfl, ⟨n, Fz.add_self⟩, rl.mono fun a o e => (if_neg (by rintro rfl; exact nomatch hFD.symm.trans e)).trans e⟩
theorem ev_comp {T : Type} {Fv : T → V} {ts : List T} (f : T → Option V) (hit : Ev G K ρ σ it₀ x) (hi : itemsOf x = some (ts.map Fv)) (hl : ts.length ≤ sizeLine) (ht : ∀ t ∈ ts, Turn G (K.comp caps [y] scope) (ρc ρ caps [Fv t]) σ ifs e' (f t)) (hchk : compChk K caps [y] scope = true := by decide +kernel) (hsf : ∀ env x, foldedSetIterable it₀ env x = pure x := by intros; rfl) :
    Ev G K ρ σ (.ListComp e' [⟨.Name y py, it₀, ifs, 0⟩] scope p) (.lst (ts.filterMap f)) := ev_compT f (fun t => .one y py _) hit hi hl ht hchk hsf
theorem swap_no {n : Str} {l : Nat} {gs : List Comprehension} (h : (K.sc.names.lookup n == some .local) = false) (h1 : env.scope = K.sc) : swapsWith (.ListComp e' gs scope p) (some (.Name n q)) l env = pure false := by
  have e : swapsWith (.ListComp e' gs scope p) (some (.Name n q)) l env = pure (env.blockKind == .function && env.kindOf n == some .local && q.line == p.line && !(scope.names.any fun (m, k) => m == n && (k == .local || k == .cell))) := rfl
  rw [← h1] at h
  have h' : (env.kindOf n == some .local) = false := h
  rw [e, h', Bool.and_false]; rfl
def swapChk (K : Sx) (n : Str) (l l' : Nat) (scope : Scope) : Bool := (K.sc.names.lookup n == some .local) && l == l' && !(scope.names.any fun (m, k) => m == n && (k == .local || k == .cell))
theorem swap_yes {n : Str} {l : Nat} {gs : List Comprehension} (h : swapChk K n q.line p.line scope = true) (h1 : env.scope = K.sc) (h2 : env.scope.kind = .function) : swapsWith (.ListComp e' gs scope p) (some (.Name n q)) l env = pure true := by
  unfold swapChk at h
  rw [← h1] at h
  have e : swapsWith (.ListComp e' gs scope p) (some (.Name n q)) l env = pure (env.blockKind == .function && env.kindOf n == some .local && q.line == p.line && !(scope.names.any fun (m, k) => m == n && (k == .local || k == .cell))) := rfl
  rw [e]
  have h3 : (env.blockKind == .function) = true := by unfold Env.blockKind; rw [h2]; rfl
  rw [h3]
  exact congrArg pure h
theorem rng_items (m : Int) : itemsOf (.rng 0 m) = some ((List.range m.toNat).map fun (i : Nat) => V.int (i : Int)) := by
  show some _ = _
  congr 1
  rw [Int.sub_zero]
  refine List.map_congr_left fun i _ => ?_
  rw [Int.zero_add]
theorem ev_comp_rng {m : Int} (f : Nat → V) (hit : Ev G K ρ σ it₀ (.rng 0 m)) (hl : m.toNat ≤ sizeLine) (ht : ∀ i : Nat, i < m.toNat → Ev G (K.comp caps [y] scope) (ρc ρ caps [.int i]) σ e' (f i)) (hchk : compChk K caps [y] scope = true := by decide +kernel) (hsf : ∀ env x, foldedSetIterable it₀ env x = pure x := by intros; rfl) :
    Ev G K ρ σ (.ListComp e' [⟨.Name y py, it₀, [], 0⟩] scope p) (.lst ((List.range m.toNat).map f)) := by
  have := ev_comp (py := py) (p := p) (ts := List.range m.toNat) (fun i => some (f i)) hit (rng_items m) (by rw [List.length_range]; exact hl) (fun i hi => turn_all (ht i (List.mem_range.mp hi))) hchk hsf
  rw [List.filterMap_eq_map'] at this
  exact this
theorem ws_asg_comp (i : Nat) {n : Str} {Q : KS} {ss : List Stmt} {p' : Pos} {T : Type} {Fv : T → V} {ts : List T} (f : T → Option V)  (hit : Ev G K ρ σ it₀ x) (hi : itemsOf x = some (ts.map Fv)) (hl : ts.length ≤ sizeLine) (ht : ∀ t ∈ ts, Turn G (K.comp caps [y] scope) (ρc ρ caps [Fv t]) σ ifs e' (f t)) (h : WS G K ss (ρ.set i (.lst (ts.filterMap f))) σ Q) (hx : nameOK K i n = true := by decide +kernel) (hchk : compChk K caps [y] scope = true := by decide +kernel) (hsw : swapChk K n q.line p.line scope = true := by decide +kernel) (hsf : ∀ env x, foldedSetIterable it₀ env x = pure x := by intros; rfl) : WS G K (.Assign [.Name n q] (.ListComp e' [⟨.Name y py, it₀, ifs, 0⟩] scope p) p' :: ss) ρ σ Q :=
  ws_cons fun A env F s E k => by
    rw [exec_Assign_Name_used _ _ _ _ (swap_yes hsw k.e.sc k.e.kind)]
    refine wpAny_bind (wpAny_standAt (wpAny_bind ?_))
    show wpAny _ A (do let _ ← comprehension (.ListComp e' [⟨.Name y py, it₀, ifs, 0⟩] scope p) scope env _ (newList []) false (eval it₀ env) (some (assign (.Name n q) env))) _ _ s
    refine wpAny_bind (wpAny_mono (comp_core (Qp := fun _ s' => PS G K A env σ F s (Kc G K ss Q) .next s') f (fun t => .one y py _) hchk hit hi hl hsf ht k.e fun D C F' s' mC vs nn S hD hC hDC hFD hFC hl' rl hn => ?_) (fun _ s' hq => wpAny_pure (wpAny_pure hq)) fun _ _ e => e)
    have S₂ := S.freeze hD hl' hFD
    have hFC₂ : F'.add D (lobj vs nn) C = none := (if_neg hDC.symm).trans hFC
    have k₂ := k.step S₂
    have hnl : ∀ b o, s.heap.get? b = some o → b ≠ C := fun b o e => by rintro rfl; exact nomatch hC.symm.trans e
    have hCown : ¬ Own env C := by
      rintro (e | ⟨z, hz⟩)
      · obtain ⟨mm, hm, _⟩ := k.e.loc.vars
        obtain ⟨o, ho⟩ := Ns_obj hm
        exact hnl _ _ ho e.symm
      · obtain ⟨⟨ov, oc, h1, _⟩, _⟩ := k.own z C hz
        exact hnl _ _ h1 rfl
    show wpAny _ A (assign (.Name n q) env (.ref D)) _ _ s'
    refine wpAny_assign_Name (store_ok (x := .lst (ts.filterMap f)) k₂ hx ⟨D, vs, rfl, ⟨nn, Fz.add_self⟩, rl.mono fun a o e => (if_neg (by rintro rfl; exact nomatch hFD.symm.trans e)).trans e⟩ fun h' t k₃ L₃ hk₃ => ⟨mC, ns_keep hn fun o e => hk₃ C o hCown e, fun h'' hs'' => ?_⟩)
    refine ⟨.next, _, σ, _, trivial, k₃.other (t := t) hFC₂ hs''.extBut hCown (k.e.rm.nofr fun o es n e => nomatch hC.symm.trans e) fun a zs q => (k₃.e.own a zs q).imp id fun h2 => h2.imp fun vs h2 => h2.imp fun n h2 => ⟨hs''.extBut _ _ ?_ h2.1, h2.2⟩, (S₂.lk.trans L₃).priv hFC₂ hC hs''.extBut, h⟩
    rintro rfl
    exact (k.e.own _ zs q).2.elim fun _ q => q.elim fun _ q => nomatch hC.symm.trans q.1
end
end Mine

set_option autoImplicit false
set_option linter.all false
set_option genSizeOf false
set_option genInjectivity false
set_option maxRecDepth 100000
namespace Mine
open PySem PySem.W PyProof.Rows
/-! ## sorted on rows -/
theorem ev_sorted {G : Gl} {K : Sx} {ρ : List V} {σ : Ow} {e : PySem.Expr} {p q : Pos} {rs : List Row} {z : V} (h1 : Ev G K ρ σ e (.lst (rs.map RowV))) (hl : rs.length ≤ 10000) (h : ∀ rs' : List Row, rs'.Perm rs → rs'.Pairwise (fun a b => rowLt b a = false) → z = .lst (rs'.map RowV)) (hs : notStar e = true := by rfl) (hg : globOK K "sorted" = true := by decide +kernel) : Ev G K ρ σ (.Call (.Name "sorted" q) [e] [] p) z :=
  ev_cb 7 rfl hg (by rw [List.all_cons, hs]; rfl) (evl_cons h1 evl_nil) fun A env F s E vs k r => by
    obtain ⟨v, rfl, r₁⟩ := rel1 r
    obtain ⟨a, us, rfl, hu, hn, rl⟩ := lst_list k.rm r₁
    refine sorted_rows hu k.rm.sub rl hl fun out rs' a1 a2 a3 => ?_
    cases h rs' a2 a3
    obtain ⟨e, he⟩ := sortedAll_at s.heap us out.toArray
    have hk : ∀ b o, s.heap.get? b = some o → (sortedAll s.heap us out.toArray).get? b = some o := fun _ _ => sortedAll_old
    have hn : s.heap.get? (s.heap.objs.size + 1) = none := by
      cases q : s.heap.get? (s.heap.objs.size + 1) with
      | none => rfl
      | some o => exact absurd (Heap.lt_size q) (Nat.not_lt.mpr (Nat.le_succ _))
    have S : St N0 F s F { s with heap := sortedAll s.heap us out.toArray, toks := s.toks } := .grow k.rm.sub hk
    exact ⟨_, S.freeze hn he (k.rm.out hn), _, out, rfl, ⟨e, Fz.add_self⟩, a1.mono fun a o e => (if_neg (by rintro rfl; exact nomatch hn.symm.trans (k.rm.sub _ _ e))).trans e⟩

/-! ## the head: functions, globals, the call of the law itself -/
theorem lookup_zip : ∀ {ns : List Str} {vs : List Value}, ns.Nodup → vs.length = ns.length → ns.filterMap (fun n => ((ns.zip vs).lookup n).map (n, ·)) = ns.zip vs := by
  intro ns vs hn hl
  have key : ∀ (ps : List (Str × Value)) (l : List Str) (w : List Value), l.Nodup → w.length = l.length → (∀ n ∈ l, ps.lookup n = none) → l.filterMap (fun n => ((ps ++ l.zip w).lookup n).map (n, ·)) = l.zip w := by
    intro ps l
    induction l generalizing ps with
    | nil => intro w _ _ _; simp
    | cons a l ih =>
      intro w hn hw hp
      cases w with
      | nil => simp at hw
      | cons v w =>
        have ha : ps.lookup a = none := hp a (List.mem_cons_self ..)
        have e1 : (ps ++ (a :: l).zip (v :: w)).lookup a = some v := by
          rw [List.zip_cons_cons, List.lookup_append, ha]; simp
        rw [List.filterMap_cons, e1]
        have e2 : ps ++ (a :: l).zip (v :: w) = (ps ++ [(a, v)]) ++ l.zip w := by simp
        simp only [Option.map_some]
        rw [e2, ih (ps ++ [(a, v)]) w (List.nodup_cons.mp hn).2 (by simpa using hw) (fun n hm => ?_)]
        · simp
        · rw [List.lookup_append, hp n (List.mem_cons_of_mem _ hm)]
          have hne : n ≠ a := by rintro rfl; exact (List.nodup_cons.mp hn).1 hm
          have : (n == a) = false := by simpa using hne
          simp [List.lookup_cons, this]
  simpa using key [] ns vs hn hl (by simp)
theorem lookup_zip_none : ∀ {ns : List Str} {vs : List Value} {n : Str}, vs.length = ns.length → n ∈ ns → ((ns.zip vs).lookup n).isNone = false
  | a :: l, v :: w, n, hl, hm => by
    rw [List.zip_cons_cons, List.lookup_cons]
    by_cases e : n = a
    · subst e; simp
    · have : (n == a) = false := by simpa using e
      rw [this]
      exact lookup_zip_none (by simpa using hl) (by rcases List.mem_cons.mp hm with h | h; exact absurd h e; exact h)
  | _ :: _, [], _, hl, _ => by simp at hl
theorem bind_simple {fd : FuncData} {ns : List Str} {vs : List Value} (h1 : fd.params.posonlyargs = []) (h2 : fd.params.args.map (·.arg) = ns) (h3 : fd.params.kwonlyargs = []) (h4 : fd.params.vararg = none) (h5 : fd.params.kwarg = none)
    (h6 : fd.defaults = .none) (hn : ns.Nodup) (hl : vs.length = ns.length) : bindArgs fd ⟨vs, []⟩ = pure (ns.zip vs) := by
  unfold bindArgs
  have hm : (ns.filter fun n => ((ns.zip vs).lookup n).isNone) = [] := by
    rw [List.filter_eq_nil_iff]; intro n hn'; rw [lookup_zip_none hl hn']; decide
  have hs : seqItems? fd.defaults = pure none := by rw [h6]; rfl
  simp only [h1, h2, h3, h4, h5, hs, List.map_nil, List.nil_append, List.forIn_nil, pure_bind, Option.getD_none, List.append_nil, hl, Nat.lt_irrefl, gt_iff_lt, decide_false, Bool.false_and, Bool.false_eq_true, if_false]
  simp [hm, lookup_zip hn hl]
/-- a function of the text: its names, the number of its parameters -/
structure Fn where
  ns : List Str
  np : Nat
def recOf (p : Program) (f : Str) : Option DefRec := (recsOf p).find? fun d => d.name == f
def bodyOf (p : Program) (f : Str) : List Stmt := match recOf p f with | some d => d.body | none => []
def sxOf (p : Program) (f : Str) (F : Fn) : Sx := match recOf p f with | some d => ⟨d.scope, F.ns⟩ | none => ⟨default, []⟩
def recChk (p : Program) (f : Str) (F : Fn) : Bool := match recOf p f with
  | some d => d.params.posonlyargs.isEmpty && (d.params.args.map (·.arg) == F.ns.take F.np) && d.params.kwonlyargs.isEmpty && d.params.vararg.isNone && d.params.kwarg.isNone && fnChk ⟨d.scope, F.ns⟩ F.np
  | none => false
section
variable {p : Program} {loose : List Str} {mean : ExcName → Option Value} {mg mb : Str → Option Value} {h : Heap} {prog : Program} {w : World} {dd : Nat}
theorem top_fn (T : Top p loose mean mg mb h) {f : Str} {F : Fn} (hk : recChk p f F = true) : FnAt h mg f (sxOf p f F) F.np (bodyOf p f) := by
  unfold sxOf bodyOf
  unfold recChk at hk
  split at hk
  · rename_i d hd
    simp only [Bool.and_eq_true, List.isEmpty_iff, Option.isNone_iff_eq_none, beq_iff_eq] at hk
    obtain ⟨⟨⟨⟨⟨k1, k2⟩, k3⟩, k4⟩, k5⟩, k6⟩ := hk
    have hn : d.name = f := eq_of_beq (List.find?_some (p := fun d : DefRec => d.name == f) hd)
    obtain ⟨a, o, pm, code, doc, h1, h2, h3, h4⟩ := T.fn d (List.mem_of_find?_eq_some hd)
    rw [hn] at h1
    have e : fnA mg f = a := by unfold fnA; simp only [h1]
    have k7 := k6
    unfold fnChk at k7
    simp only [Bool.and_eq_true, decide_eq_true_eq] at k7
    refine ⟨⟨o, _, ?_, ?_, h3, h4, rfl, rfl, rfl, rfl, fun vs hl => ?_, rfl⟩, k6⟩
    · rw [e]; exact h1
    · rw [e]; exact h2
    · exact bind_simple k1 k2 k3 k4 k5 rfl (k7.1.2.sublist (List.take_sublist ..)) (by rw [List.length_take, Nat.min_eq_left k7.2]; exact hl)
  · cases hk
def freeChk (p : Program) (loose : List Str) (x : Str) : Bool :=
  !(startupNames.contains x) && !(loose.contains x) && !(((recsOf p).map (·.name)).contains x) && !(((litsOf p).map (·.1)).contains x) && !(((clssOf p loose).map (·.name)).contains x) && !(x == ("__name__" : Str))
theorem top_builtin (T : Top p loose mean mg mb h) {x : Str} (hk : freeChk p loose x = true) : mg x = none ∧ mb x = bootBuiltins x := by
  unfold freeChk at hk
  simp only [Bool.and_eq_true, Bool.not_eq_true', beq_eq_false_iff_ne, ne_eq] at hk
  obtain ⟨⟨⟨⟨⟨k1, k2⟩, k3⟩, k4⟩, k5⟩, k6⟩ := hk
  have f : ∀ {l : List Str}, l.contains x = false → x ∉ l := fun hc hm => by rw [List.contains_iff_mem.mpr hm] at hc; cases hc
  exact ⟨T.free x (f k1) (f k2) (f k3) (f k4) (f k5), T.builtins x k6⟩
theorem blt_boot : ∀ y ∈ blts, bootBuiltins y.1 = some y.2 := by
  intro y hy
  simp only [blts, List.mem_cons, List.not_mem_nil, or_false] at hy
  rcases hy with rfl | rfl | rfl | rfl | rfl | rfl | rfl | rfl | rfl | rfl | rfl | rfl | rfl <;> decide +kernel
theorem top_gl (T : Top p loose mean mg mb h) (hb : (blts.all fun y => freeChk p loose y.1) = true) : Gl.Ok ⟨prog, w, h, mg, mb, dd⟩ :=
  ⟨T.g, T.b, T.nolimit, fun i x v hi => have hm := List.mem_of_getElem? hi; let ⟨a, b⟩ := top_builtin T (List.all_eq_true.mp hb _ hm); ⟨a, b.trans (blt_boot _ hm)⟩⟩
end
theorem law_post (l : OpenLaw) (args : List WData) : l.row.claim.post args (.bool true) args = true := by
  show (WShape.has [] (.bool true) .bool && WTm.holds [] (.eq .res (.lit (.bool true))) { args := args, res := some (.bool true), after := args }) = true
  simp [WShape.has, WTm.holds, WTm.value, same, WShape.arms]
theorem head_ok {G : Gl} (GO : G.Ok) {s : Shared} {fa : Addr} (hf : G.fn "law" = fa) (hs : s.heap = G.B) (hd : G.d = 680) (hg : s.gens = #[]) {a : Addr} {vs : List Value} {zs : List Int} (hL : s.heap.IsList a vs.toArray) (hI : IntsAre vs zs)
    {c : ClaimW} {cl : Str → Option Addr} {mean : ExcName → Option Value} {args : List WData} (hn : ∀ cls, c.raises args cls = false) (hp : c.post args (.bool true) args = true)
    {K : Sx} {sts : List Stmt} (FA : FnAt G.B G.mg "law" K 1 sts) (h : WS G.dn K sts (.scr (zs.map .int) :: List.replicate (K.ns.length - 1) .unb) σ0 (retQ (.bool true))) :
    codeAny G.M callerA (.call (.ref fa) ⟨[.ref a], []⟩) (GoodWG c cl mean args s) s := by
  subst hf
  have hr : ∀ {F : Fz} {vs : List Value} {zs : List Int}, IntsAre vs zs → RelL F (zs.map .int) vs := by
    intro F vs zs hI
    induction hI with
    | nil => rfl
    | cons _ _ _ ih => exact ⟨_, _, rfl, ⟨_, rfl⟩, ih⟩
  have k : Rm G callerA s.heap.get? s := ⟨GO, fun a o e => hs ▸ e, fun _ _ e => e, by rw [hd]; show 1 + claimMargin + 680 ≤ 1000; decide, by rw [hd]; decide, rfl, [], rfl, fun _ m => nomatch m⟩
  refine enter_ok FA.o (xs := [.scr (zs.map .int)]) (F := s.heap.get?) rfl (by rw [hd]; decide) h k ⟨_, _, rfl, ⟨a, vs, rfl, hL, hr hI⟩, rfl⟩ (fun _ _ q => nomatch q) fun fl v σ' F' s' hf own S d q => ?_
  have hv : v = .bool true := by
    obtain ⟨ρ, q⟩ := q
    rcases hf with hf | ⟨rfl, rfl⟩
    · cases fl with
      | next => exact hf.elim
      | ret x =>
        generalize hz : V.bool true = z at q
        cases (show Res σ' x z from q) with
        | id => subst hz; exact hf
        | own => cases hz
        | tup => cases hz
    · exact nomatch (show V.bool true = .none from q)
  subst hv
  refine GoodW.toG ⟨.inl ⟨_, _, [], rfl, hn, .bool true, hp, unshared_nil⟩, fun b o e => ?_, ?_, ?_⟩
  · exact S.sub b o (S.up b o e)
  · rw [S.rest]
  · rw [S.rest]; exact hg
end Mine

set_option autoImplicit false
set_option linter.all false
set_option genSizeOf false
set_option genInjectivity false
set_option maxRecDepth 100000
namespace Mine
open PySem PyProof.Rows
section
variable {G : Gl} {K : Sx} {A : Around} {env : Env} {ρ : List V} {σ : Ow} {F F₁ : Fz} {s s₁ : Shared} {E : Value → Shared → Prop} {Q : KS} {e l r : PySem.Expr} {es : List PySem.Expr} {ss : List Stmt} {x y z : V} {p q q' pc : Pos} {b : Bool} {a a' : List Nat} {xs ys zs : List V} {f : Str}
/-! ## texts in order; a text in a list of texts -/
theorem cm_lts : Cm G .Lt (.str a) (.str a') (decide (a < a')) := by rintro A F s E _ _ R _ ⟨_, rfl⟩ ⟨_, rfl⟩ h; exact P.lt_str h
theorem cm_gts : Cm G .Gt (.str a) (.str a') (decide (a' < a)) := by rintro A F s E _ _ R _ ⟨_, rfl⟩ ⟨_, rfl⟩ h; exact P.gt_str h
theorem any_str (k : List Nat) : ∀ {ts : List (List Nat)} {vs : List Value}, RelL F (ts.map .str) vs → (∀ (t : Tok), ∀ v ∈ vs, MeetsSeq.EqGives v (.str ⟨k.toArray⟩ t) (isStrOf ⟨k.toArray⟩ v)) ∧ vs.any (isStrOf ⟨k.toArray⟩) = ts.contains k
  | [], _, rfl => ⟨fun _ _ h => (nomatch h), rfl⟩
  | t :: ts, _, ⟨_, ws, rfl, ⟨u, rfl⟩, r⟩ => by
    obtain ⟨h1, h2⟩ := any_str k r
    have e : isStrOf ⟨k.toArray⟩ (.str ⟨t.toArray⟩ u) = ((⟨t.toArray⟩ : Str) == ⟨k.toArray⟩) := rfl
    refine ⟨fun t' v hv => ?_, ?_⟩
    · rcases List.mem_cons.mp hv with rfl | hv
      · exact eqGives_str _ _ _ _
      · exact h1 t' v hv
    · rw [List.any_cons, h2, e, str_eq_iff, List.contains_cons]
      congr 1
      rw [Bool.eq_iff_iff, decide_eq_true_eq, beq_iff_eq]; exact ⟨Eq.symm, Eq.symm⟩
theorem tr_notin {c : Addr} {ts : List (List Nat)} (h1 : Ev G K ρ σ l (.str a)) (h2 : Ev G K ρ σ r (.ref c)) (hc : σ c = some (ts.map .str)) (hm : behindInMarks .NotIn r = false := by rfl) : Tr G K ρ σ (.Compare l [.NotIn] [r] p) (!ts.contains a) :=
  fun A env F s E k => wpAny_isTrue_Compare1 (h1.bind k fun v F₁ s₁ S₁ r₁ k₁ => h2.bind k₁ fun w F₂ s₂ S₂ r₂ k₂ => by
    obtain ⟨t, rfl⟩ := r₁
    cases show w = .ref c from r₂
    obtain ⟨vs, hl, rl⟩ := own_list k₂ hc
    obtain ⟨g1, g2⟩ := any_str a rl
    exact PySem.SeqAt.notIn_listAt (isStrOf ⟨a.toArray⟩) hl (fun y hy => (g1 t y (by simpa using hy)).at _ _) (by rw [List.any_toArray, g2]; exact wpAny_truthy_bool ⟨F₂, S₁.trans S₂, rfl⟩)) hm
/-! ## a value let go -/
theorem ws_expr (h1 : Ev G K ρ σ e x) (h : WS G K ss ρ σ Q) (hs : ∀ env, swapsWith e none p.line env = pure false := by intros; rfl) : WS G K (.Expr e p :: ss) ρ σ Q :=
  ws_cons fun A env F s E k => wpAny_Expr_any (h1.bind k.e fun v F₁ s₁ S r k₁ => ⟨.next, ρ, σ, F₁, trivial, k.step S, S.lk, h⟩) (by unfold interactive; rw [k.e.kind]; rfl) (hs env)
/-! ## a list of one's own is handed to a function that tells a truth -/
theorem ev_callo {c : Addr} (h : Pure G f (.lst ys :: xs) (.bool b)) (h1 : Ev G K ρ σ e (.ref c)) (hc : σ c = some ys) (ha : EvL G K ρ σ es xs) (hs : (e :: es).all notStar = true := by rfl) (hg : globOK K f = true := by decide +kernel) : Ev G K ρ σ (.Call (.Name f q) (e :: es) [] p) (.bool b) := fun A env F s E k => by
  obtain ⟨o, fd, hf, ho, hfd⟩ := h.is
  refine wpAny_Call_NameR (name_global k (.inl hf) hg ?_)
  rw [back_star p env hs]
  refine Calls.callWith_function (evalArgs_list (all_false (e :: es) env) ((evl_cons h1 ha).bind k fun vs F₁ s₁ S₁ r₁ k₁ => ⟨⟨k₁.rm.in _ _ ho, hfd⟩, ?_⟩))
  obtain ⟨v, ws, rfl, rv, rl⟩ := r₁
  cases show v = .ref c from rv
  obtain ⟨hF, us, n, hu, ru⟩ := k₁.own c ys hc
  have up : ∀ a o, F₁ a = some o → F₁.add c (lobj us n) a = some o := fun a o e => (if_neg (by rintro rfl; exact nomatch hF.symm.trans e)).trans e
  have R₂ : Rm G A (F₁.add c (lobj us n)) s₁ := ⟨k₁.rm.go, fun a o e => up a o (k₁.rm.base a o e), fun a o e => by
    by_cases h : a = c
    · subst h; cases Fz.add_self.symm.trans e; exact hu
    · exact k₁.rm.sub a o ((if_neg h).symm.trans e), k₁.rm.depth, k₁.rm.units, k₁.rm.handled, k₁.rm.frs fun L _ hL t => ⟨(if_neg (by rintro rfl; obtain ⟨o, es, m, e, hd⟩ := t; cases hu.symm.trans e; cases hd)).trans hL, t⟩⟩
  refine wpAny_mono (h.run A _ s₁ E _ R₂ ⟨_, ws, rfl, ⟨c, us, rfl, ⟨n, Fz.add_self⟩, ru.mono up⟩, rl.mono up⟩) (fun v s₂ q => q.casesOn fun F₂ S₂ r₂ => ⟨F₁, S₁.trans ⟨fun _ _ e => e, fun a o e => S₂.sub a o (S₂.up a o (up a o e)), S₂.keepO, S₂.live, fun _ _ e => .inl e, S₂.rest⟩, r₂⟩) fun _ _ e => e
/-! ## a function that gives back a new list -/
inductive PN (F : Fz) (s : Shared) (zs : List V) (v : Value) (s' : Shared) : Prop
  | mk (F' : Fz) (a : Addr) (vs : List Value) (n : Nat) (S : St N0 F s F' s') (hv : v = .ref a) (hn : s.heap.get? a = none) (hF : F' a = none) (ho : s'.heap.get? a = some (lobj vs n)) (r : RelL F' zs vs)
structure New (G : Gl) (f : Str) (xs zs : List V) : Prop where
  is : ∃ o fd, G.mg f = some (.ref (G.fn f)) ∧ G.B.get? (G.fn f) = some o ∧ o.data = .func fd
  run : ∀ A F s E vs, Rm G A F s → RelL F xs vs → wpAny G.M A (call (.ref (G.fn f)) vs) (PN F s zs) E s
theorem New.pure (h : New G f xs zs) : Pure G f xs (.lst zs) :=
  ⟨h.is, fun A F s E vs k r => wpAny_mono (h.run A F s E vs k r) (fun v s' q => q.casesOn fun F' a us n S hv hn hF ho ru => ⟨_, S.freeze hn ho hF, a, us, hv, ⟨n, Fz.add_self⟩, ru.mono fun b o e => (if_neg (by rintro rfl; exact nomatch hF.symm.trans e)).trans e⟩) fun _ _ e => e⟩
def retN (zs : List V) : KS := fun fl _ σ => match fl with | .ret x => ∃ a, x = .ref a ∧ σ a = some zs | .next => False
theorem new_of {np : Nat} {sts : List Stmt} (FA : FnAt G.B G.mg f K np sts) (hlen : xs.length = np) (hd : 0 < G.d) (h : WS G.dn K sts (xs ++ List.replicate (K.ns.length - np) .unb) σ0 (retN zs)) : New G f xs zs :=
  ⟨FA.obj.imp fun _ q => q.imp fun _ q => ⟨q.1, q.2.1, q.2.2.1⟩, fun A F s E vs k r => wpAny_call (enter_ok FA.o hlen hd h k r (fun _ _ q => nomatch q) fun fl v σ' F' s' hf own S d q => by
    obtain ⟨ρ, q⟩ := q
    rcases hf with hf | ⟨rfl, rfl⟩
    · cases fl with
      | next => exact hf.elim
      | ret x =>
        obtain ⟨a, rfl, ha⟩ := q
        obtain ⟨hF, us, n, hu, ru⟩ := own a zs ha
        exact ⟨F', a, us, n, S.weaken fun b o _ q => q.elim fun _ q => (nomatch q), hf, (d a zs ha).elim (fun q => q.elim fun _ q => (nomatch q)) id, hF, hu, ru⟩
    · exact q.elim)⟩
/-- a list that has come is one's own -/
theorem FOk.owned {v : Value} (k : FOk G K A env ρ σ F s) (h : PN F s zs v s₁) : ∃ a F₁, v = .ref a ∧ σ a = none ∧ FOk G K A env ρ (σ.set a zs) F₁ s₁ ∧ Lk env σ F s (σ.set a zs) F₁ s₁ :=
  h.casesOn fun F₁ a us n S hv hn hF ho ru => by
    have k' := k.step S
    have hσ : σ a = none := by
      cases q : σ a with
      | none => rfl
      | some xs => exact (k.e.own _ xs q).2.elim fun _ q => q.elim fun _ q => nomatch hn.symm.trans q.1
    refine ⟨a, F₁, hv, hσ, ⟨⟨k'.e.rm, k'.e.sc, k'.e.kind, k'.e.globals, k'.e.builtins, fun b xs q => ?_, k'.e.loc⟩, k'.top, k'.apart, k'.nodup, k'.own⟩, S.any, fun b xs q => ?_⟩
    · by_cases h : b = a
      · subst h; cases (Ow.set_self ..).symm.trans q; exact ⟨hF, us, n, ho, ru⟩
      · exact k'.e.own b xs ((Ow.set_ne _ _ h).symm.trans q)
    · by_cases h : b = a
      · exact .inr (h ▸ hn)
      · exact .inl ⟨xs, (Ow.set_ne _ _ h).symm.trans q⟩
theorem PN.from {v : Value} {s' : Shared} (S : St N0 F s F₁ s₁) (h : PN F₁ s₁ zs v s') : PN F s zs v s' := h.casesOn fun F' a vs n S' hv hn hF ho r => ⟨F', a, vs, n, S.trans S', hv, S.dead hn, hF, ho, r⟩
theorem ws_asgN {n : Str} (i : Nat) (h : New G f xs zs) (ha : EvL G K ρ σ es xs) (h2 : ∀ a, σ a = none → WS G K ss (ρ.set i (.ref a)) (σ.set a zs) Q) (hs : es.all notStar = true := by rfl) (hg : globOK K f = true := by decide +kernel) (hx : nameOK K i n = true := by decide +kernel) :
    WS G K (.Assign [.Name n q] (.Call (.Name f q') es [] pc) p :: ss) ρ σ Q :=
  ws_cons fun A env F s E k => wpAny_Assign_Name (by
    obtain ⟨o, fd, hf, ho, hfd⟩ := h.is
    refine wpAny_Call_NameR (name_global k.e (.inl hf) hg ?_)
    rw [back_star pc env hs]
    refine Calls.callWith_function (evalArgs_list (all_false es env) (ha.bind k.e fun vs F₁ s₁ S₁ r₁ k₁ => ⟨⟨k₁.rm.in _ _ ho, hfd⟩, wpAny_mono (h.run A F₁ s₁ E vs k₁.rm r₁) (fun v s₂ q => ?_) fun _ _ e => e⟩))
    obtain ⟨a, F₂, rfl, hσ, k₂, L₂⟩ := k.owned (PN.from S₁ q)
    exact store_ok (x := .ref a) k₂ hx rfl fun h' t k₃ L₃ _ => ⟨.next, _, _, F₂, trivial, k₃, L₂.trans L₃, h2 a hσ⟩) rfl
theorem ws_ret_comp {caps : List Nat} {n : Str} {py : Pos} {it₀ e' : PySem.Expr} {ifs : List PySem.Expr} {scope : Scope} {T : Type} {Fv : T → V} {ts : List T} (g : T → Option V) (hit : Ev G K ρ σ it₀ x) (hi : itemsOf x = some (ts.map Fv)) (hl : ts.length ≤ sizeLine) (ht : ∀ t ∈ ts, Turn G (K.comp caps [n] scope) (ρc ρ caps [Fv t]) σ ifs e' (g t)) (h : ∀ a, σ a = none → Q (.ret (.ref a)) ρ (σ.set a (ts.filterMap g))) (hchk : compChk K caps [n] scope = true := by decide +kernel) (hsf : ∀ env x, foldedSetIterable it₀ env x = pure x := by intros; rfl) :
    WS G K (.Return (some (.ListComp e' [⟨.Name n py, it₀, ifs, 0⟩] scope p)) q :: ss) ρ σ Q :=
  ws_cons fun A env F s E k => wpAny_Return_some (by
    rw [eval_ListComp]
    refine comp_core g (fun t => .one n py _) hchk hit hi hl hsf ht k.e fun D C F' s' mC vs n S hD hC hDC hFD hFC hl' rl hn => ⟨mC, hn, fun h' hs' => ?_⟩
    have hD' : h'.get? D = some (lobj vs n) := by rw [hs'.2 D hDC]; exact hl'
    obtain ⟨a, F₂, e, hσ, k₂, L₂⟩ := k.owned (v := .ref D) (⟨F', D, vs, n, S.priv (t := s'.toks) hFC hC hs'.extBut, rfl, hD, hFD, hD', rl⟩ : PN F s _ _ _)
    cases e
    exact ⟨.ret (.ref D), ρ, _, F₂, rfl, k₂, L₂, h D hσ⟩)
end
end Mine

set_option autoImplicit false
set_option linter.all false
set_option genSizeOf false
set_option genInjectivity false
set_option maxRecDepth 100000
namespace Mine
open PySem PyProof.Rows PySem.W

/-! ## an exception on its way -/
/-- B holds what is frozen, and of what stood at s all but the frames' dicts -/
def Cov (F : Fz) (s : Shared) (B h : Heap) : Prop := (∀ a o, F a = some o → B.get? a = some o) ∧ ∀ b o, s.heap.get? b = some o → ∃ o', h.get? b = some o' ∧ (B.get? b = some o' ∨ ∃ es n, o'.data = .dict es n)
section
variable {D : Addr → Prop} {F F₁ F' : Fz} {s s₁ s' : Shared} {B h : Heap}
theorem Cov.from (c : Cov F' s₁ B h) (S : St D F s F₁ s₁) : Cov F' s B h := ⟨c.1, fun b o e => (S.live b o e).elim fun o' q => c.2 b o' q.1⟩
theorem fly_step (S : St D F s F' s') (c : Cov F' s B s'.heap) (st : B.StaysIn h) (u : s'.heap.UpToSlots h) : St D F s F' { s' with heap := h } ∧ Cov F' s B h := by
  have key : ∀ b o o', s.heap.get? b = some o → s'.heap.get? b = some o' → (h.get? b = some o' ∧ B.get? b = some o') ∨ ∃ sl, h.get? b = some { o' with slots := sl } ∧ ∃ es n, o'.data = .dict es n := fun b o o' e e' => by
    obtain ⟨o'', h1, h2⟩ := c.2 b o e
    cases e'.symm.trans h1
    rcases h2 with h2 | ⟨es, n, hd⟩
    · exact .inl ⟨st b _ h2, h2⟩
    · exact .inr ((u b _ e' fun vs q => nomatch hd.symm.trans q).imp fun sl q => ⟨q, es, n, hd⟩)
  refine ⟨⟨S.up, fun a o e => st a o (c.1 a o e), fun b o e d => ?_, fun b o e => ?_, S.new, by rw [S.rest]⟩, c.1, fun b o e => ?_⟩
  · obtain ⟨o', h1, h2⟩ := S.keepO b o e d
    rcases key b o o' e h1 with q | ⟨sl, q, hd⟩
    · exact ⟨o', q.1, h2⟩
    · exact ⟨_, q, h2.trans (.inr ⟨hd, sl, rfl⟩)⟩
  · obtain ⟨o', h1, h2⟩ := S.live b o e
    rcases key b o o' e h1 with q | ⟨sl, q, hd⟩
    · exact ⟨o', q.1, h2⟩
    · exact ⟨_, q, h2.trans fun _ _ e => ⟨_, _, e⟩⟩
  · obtain ⟨o', h1, _⟩ := c.2 b o e
    rcases key b o o' e h1 with q | ⟨sl, q, es, n, hd⟩
    · exact ⟨o', q.1, .inl q.2⟩
    · exact ⟨_, q, .inr ⟨es, n, hd⟩⟩
end
/-- in a frame: made, noted, or come from a frame below -/
def ExcAt (B : Heap) (l : List Env) (e : Addr) (cls : Value) (L : Addr) (h : Heap) : Prop := B.StaysIn h ∧ B.get? e = none ∧ h.FunFrames B l ∧
  ((∃ oe vs a0, h.get? e = some oe ∧ oe.cls = cls ∧ oe.data = .fields vs ∧ vs[0]? = some a0 ∧ vs[1]? = some .none) ∨ ∃ a0 fl, h.TracedAtW B e cls a0 fl ∧ (fl = .none ∨ fl = rawInt L))
inductive PX (G : Gl) (K : Sx) (A : Around) (env : Env) (σ : Ow) (F : Fz) (s : Shared) (C : Addr) (v : Value) (s' : Shared) : Prop
  | mk (e : Addr) (ρ₁ : List V) (σ₁ : Ow) (F₁ : Fz) (s₁ : Shared) (F' : Fz) (B : Heap) (L : Addr) (outer : List Env) (hv : v = .ref e) (hfr : A.frames = some (env :: outer)) (hf : env.frame = some L) (k : FOk G K A env ρ₁ σ₁ F₁ s₁) (l : Lk env σ F s σ₁ F₁ s₁) (S : St N0 F₁ s₁ F' s') (c : Cov F' s₁ B s'.heap) (x : ExcAt B (env :: outer) e (.ref C) L s'.heap)
/-- behind a call: it comes from a frame below -/
inductive PE (A : Around) (F : Fz) (s : Shared) (C : Addr) (v : Value) (s' : Shared) : Prop
  | mk (e : Addr) (F' : Fz) (B : Heap) (a0 : Value) (l : List Env) (hv : v = .ref e) (hfr : A.frames = some l) (S : St N0 F s F' s') (c : Cov F' s B s'.heap) (x : Heap.FlyingW B l e (.ref C) a0 s'.heap)
/-- noted by the frame, or come from below and not noted yet -/
structure Hld (G : Gl) (K : Sx) (A : Around) (env : Env) (σ : Ow) (F : Fz) (s : Shared) (e : Addr) (ρ₁ : List V) (σ₁ : Ow) (F₁ : Fz) (s₁ : Shared) (F' : Fz) (B : Heap) (outer : List Env) (s' : Shared) : Prop where
  hfr : A.frames = some (env :: outer)
  k : FOk G K A env ρ₁ σ₁ F₁ s₁
  l : Lk env σ F s σ₁ F₁ s₁
  S : St N0 F₁ s₁ F' s'
  c : Cov F' s₁ B s'.heap
section
variable {M : Model} {G : Gl} {K : Sx} {A : Around} {env : Env} {σ : Ow} {F : Fz} {s s' : Shared} {C : Addr} {v : Value} {E : Value → Shared → Prop} {Q : Unit → Shared → Prop}
theorem Hld.turn {e : Addr} {ρ₁ : List V} {σ₁ : Ow} {F₁ : Fz} {s₁ : Shared} {F' : Fz} {B h : Heap} {outer : List Env} (H : Hld G K A env σ F s e ρ₁ σ₁ F₁ s₁ F' B outer s') (st : B.StaysIn h) (u : s'.heap.UpToSlots h) : Hld G K A env σ F s e ρ₁ σ₁ F₁ s₁ F' B outer { s' with heap := h } :=
  ⟨H.hfr, H.k, H.l, (fly_step H.S H.c st u).1, (fly_step H.S H.c st u).2⟩
/-- the frame notes it -/
theorem px_note (h : PX G K A env σ F s C v s') (k : ∀ e ρ₁ σ₁ F₁ s₁ F' B L outer a0 h', v = .ref e → env.frame = some L → Hld G K A env σ F s e ρ₁ σ₁ F₁ s₁ F' B outer { s' with heap := h' } → Heap.HeldW B (env :: outer) e (.ref C) a0 L h' → Q () { s' with heap := h' }) :
    wpAny M A (noteFrame v env) Q E s' := by
  obtain ⟨e, ρ₁, σ₁, F₁, s₁, F', B, L, outer, rfl, hfr, hf, k₁, l, S, c, st, hen, ff, x⟩ := h
  have H : Hld G K A env σ F s e ρ₁ σ₁ F₁ s₁ F' B outer s' := ⟨hfr, k₁, l, S, c⟩
  rcases x with ⟨oe, vs, a0, he, hc, hd, h0, h1⟩ | ⟨a0, fl, ht, rfl | rfl⟩
  · unfold noteFrame
    simp only [hf]
    refine wpAny_bind (wpAny_field he hd h1 ?_)
    rw [if_neg (by decide)]
    refine wpAny_entryW hfr ff hf he st hen hd (Array.getElem?_eq_some_iff.mp h1).1 h0 fun h' ⟨x1, x2, x3, x4⟩ => ?_
    exact k e _ _ _ _ _ B L outer a0 h' rfl hf (H.turn x1 x4) ⟨x1, hen, x2, hc ▸ x3⟩
  · refine wpAny_looks_onW hfr hf ⟨st, hen, ff, ht⟩ fun h' hh u => ?_
    exact k e _ _ _ _ _ B L outer a0 h' rfl hf (H.turn hh.1 u) hh
  · exact wpAny_noteFrame_againW hf ht (k e _ _ _ _ _ B L outer a0 s'.heap rfl hf H ⟨st, hen, ff, ht⟩)
/-- the frame ends by it -/
theorem px_leave (h : PX G K A env σ F s C v s') (k : ∀ e ρ₁ σ₁ F₁ s₁ F' B outer a0 h', v = .ref e → Hld G K A env σ F s e ρ₁ σ₁ F₁ s₁ F' B outer { s' with heap := h' } → Heap.FlyingW B outer e (.ref C) a0 h' → Q () { s' with heap := h' }) :
    wpAny M A (leaving env v) Q E s' := by
  unfold leaving
  refine wpAny_bind (px_note h fun e ρ₁ σ₁ F₁ s₁ F' B L outer a0 h₁ hv hf H hh => ?_)
  subst hv
  refine wpAny_landsW hh fun h₂ hfl u => ?_
  have H₂ := H.turn hfl.1 u
  obtain ⟨k1, k2, ⟨_, _, k3⟩, k4⟩ := hfl
  exact k e _ _ _ _ _ B outer a0 h₂ rfl H₂ ⟨k1, k2, k3, k4⟩
/-- a loop hands it on -/
theorem px_loop (h : PX G K A env σ F s C v s') : notedBy M A env (cameBackBy M A env (PX G K A env σ F s C)) v s' := by
  unfold notedBy
  refine px_note h fun e ρ₁ σ₁ F₁ s₁ F' B L outer a0 h₁ hv hf H hh => ?_
  subst hv
  unfold cameBackBy
  obtain ⟨x1, x2, x3, oe, vs, T, oT, ts, t1, t2, t3, t4, t5, t6, t7, t8, t9⟩ := hh
  refine wpAny_bind (wpAny_field t1 t3 t4 ?_)
  rw [if_neg (show ¬ ((Value.ref T == Value.none) = true) from by simp), hf]
  unfold setFlight
  refine wpAny_bind (wpAny_field t1 t3 t4 ?_)
  rw [if_pos (show (Value.ref T != Value.none) = true from by simp)]
  have hlt : 3 < ts.size := (Array.getElem?_eq_some_iff.mp t9).1
  refine wpAny_setField t7 t8 hlt ?_
  have other : ∀ b, b ≠ T → (h₁.update T (Obj.mapFields (·.setIfInBounds 3 ((some L : Option Addr).elim Value.none fun f => rawInt f)))).get? b = h₁.get? b := fun b hb => Heap.get?_update_other _ _ (Ne.symm hb)
  have noRec : ∀ b o, h₁.get? b = some o → (∀ vs, o.data ≠ .fields vs) → b ≠ T := fun b o hb hn q => by
    rw [q, t7] at hb; cases hb; exact hn ts t8
  have st : B.StaysIn (h₁.update T (Obj.mapFields (·.setIfInBounds 3 ((some L : Option Addr).elim Value.none fun f => rawInt f)))) := fun b o hb => (other b fun q => by rw [q, t5] at hb; cases hb).trans (x1 b o hb)
  have H₂ := H.turn st fun b o hb hn => ⟨o.slots, (other b (noRec b o hb hn)).trans hb⟩
  exact ⟨e, ρ₁, σ₁, F₁, s₁, F', B, L, outer, rfl, H.hfr, hf, H.k, H.l, H₂.S, H₂.c, st, x2, x3.of_keeps fun b o hb hn => ⟨o, (other b (noRec b o hb hn)).trans hb, rfl⟩, .inr ⟨a0, rawInt L, ⟨oe, vs, T, _, _, (other e (Ne.symm t6)).trans t1, t2, t3, t4, t5, t6, Heap.get?_update_self _ t7 (Obj.isFreed_of_fields (Obj.data_mapFields t8 _)), Obj.data_mapFields t8 _, by simp [hlt]⟩, .inr rfl⟩⟩
end

/-! ## statements that end by an exception of class C -/
def WR (G : Gl) (K : Sx) (ss : List Stmt) (ρ : List V) (σ : Ow) (C : Addr) : Prop :=
  ∀ A env F s, FOk G K A env ρ σ F s → wpAny G.M A (execs ss env) (fun _ _ => False) (PX G K A env σ F s C) s
structure Rz (G : Gl) (f : Str) (xs : List V) (C : Addr) : Prop where
  is : ∃ o fd, G.mg f = some (.ref (G.fn f)) ∧ G.B.get? (G.fn f) = some o ∧ o.data = .func fd
  run : ∀ A F s vs, Rm G A F s → RelL F xs vs → wpAny G.M A (call (.ref (G.fn f)) vs) (fun _ _ => False) (PE A F s C) s
/-- a class of the text's own, made from ValueError -/
def vbm : List Value := [.type "ValueError", .type "Exception", .type "BaseException", .type "object"]
abbrev XC (G : Gl) (x : Str) (C : Addr) : Prop := OwnClsQ x C vbm "ValueError.__new__" G.mg G.B
theorem exec_of_execs {M : Model} {A : Around} {st : Stmt} {env : Env} {Q : Flow → Shared → Prop} {E : Value → Shared → Prop} {s : Shared} (h : wpAny M A (execs [st] env) Q E s) : wpAny M A (exec st env) Q E s := fun Γ p hΓ => by
  have := h Γ p hΓ
  rw [execs_cons, Sem.wp_bind'] at this
  refine Sem.wp_mono M Γ _ (fun f p' s' h' => ?_) (fun _ _ _ h' => h') _ _ this
  cases f <;> exact h'
section
variable {G : Gl} {K : Sx} {A : Around} {env : Env} {ρ : List V} {σ σ₁ : Ow} {F F₁ : Fz} {s s₁ : Shared} {ss : List Stmt} {st : Stmt} {C : Addr} {p q q' pc : Pos} {e c : PySem.Expr} {es : List PySem.Expr} {x : V} {xs : List V} {b : Bool} {f : Str}
theorem PX.from {v : Value} {s' : Shared} (L : Lk env σ F s σ₁ F₁ s₁) (h : PX G K A env σ₁ F₁ s₁ C v s') : PX G K A env σ F s C v s' :=
  h.casesOn fun e ρ₂ σ₂ F₂ s₂ F' B Lc outer hv hfr hf k l S c x => ⟨e, ρ₂, σ₂, F₂, s₂, F', B, Lc, outer, hv, hfr, hf, k, L.trans l, S, c, x⟩
theorem wr_from {t : Sem Flow} {Q : Flow → Shared → Prop} {M : Model} (L : Lk env σ F s σ₁ F₁ s₁) (h : wpAny M A t Q (PX G K A env σ₁ F₁ s₁ C) s₁) : wpAny M A t Q (PX G K A env σ F s C) s₁ := wpAny_mono h (fun _ _ q => q) fun _ _ q => q.from L
theorem wr_seq (h : WS G K [st] ρ σ fun fl ρ' σ' => fl = .next ∧ WR G K ss ρ' σ' C) : WR G K (st :: ss) ρ σ C := fun A env F s k =>
  wpAny_execs_cons (wpAny_mono (exec_of_execs (h A env F s _ k)) (fun f s₁ h' => h'.casesOn fun fl ρ' σ' F' hf k' L q' => by
    cases q'.1
    cases f <;> first | exact hf.elim | skip
    exact wr_from L (q'.2 A env F' s₁ k')) fun _ _ e => e)
theorem wr_here (h : ∀ A env F s, FOk G K A env ρ σ F s → wpAny G.M A (exec st env) (fun _ _ => False) (PX G K A env σ F s C) s) : WR G K (st :: ss) ρ σ C := fun A env F s k =>
  wpAny_execs_cons (wpAny_mono (h A env F s k) (fun _ _ q => q.elim) fun _ _ e => e)
theorem wr_if {a b' : List Stmt} (h1 : Tr G K ρ σ c b) (ht : b = true → WR G K a ρ σ C) (hf : b = false → WR G K b' ρ σ C) : WR G K (.If c a b' p :: ss) ρ σ C :=
  wr_here fun A env F s k => wpAny_If (h1.bind k.e fun F₁ s₁ S k₁ => by
    cases b
    · exact wr_from S.lk (hf rfl A env F₁ s₁ (k.step S))
    · exact wr_from S.lk (ht rfl A env F₁ s₁ (k.step S)))
/-- what a call below hands up -/
theorem px_of_pe {v : Value} {s' : Shared} (k : FOk G K A env ρ σ F s) (h : PE A F s C v s') : PX G K A env σ F s C v s' :=
  h.casesOn fun e F' B a0 l hv hfr S c x => by
    obtain ⟨outer, hA⟩ := k.top
    cases hA.symm.trans hfr
    obtain ⟨l, hl, fr⟩ := k.e.rm.frames
    cases hA.symm.trans hl
    obtain ⟨_, L, hL, _⟩ := fr env (List.mem_cons_self ..)
    exact ⟨e, ρ, σ, F, s, F', B, L, outer, hv, hA, hL, k, (St.refl k.e.rm.sub).lk, S, c, x.1, x.2.1, x.2.2.1, .inr ⟨a0, .none, x.2.2.2, .inl rfl⟩⟩
theorem rz_call {Q : Value → Shared → Prop} (h : Rz G f xs C) (ha : EvL G K ρ σ es xs) (k : FOk G K A env ρ σ F s) (hs : es.all notStar = true) (hg : globOK K f = true) : wpAny G.M A (eval (.Call (.Name f q') es [] pc) env) Q (PX G K A env σ F s C) s := by
  obtain ⟨o, fd, hf, ho, hfd⟩ := h.is
  refine wpAny_Call_NameR (name_global k.e (.inl hf) hg ?_)
  rw [back_star pc env hs]
  refine Calls.callWith_function (evalArgs_list (all_false es env) (ha.bind k.e fun vs F₁ s₁ S₁ r₁ k₁ => ⟨⟨k₁.rm.in _ _ ho, hfd⟩, wpAny_mono (h.run A F₁ s₁ vs k₁.rm r₁) (fun _ _ q => q.elim) fun v s' q => ?_⟩))
  exact (px_of_pe (k.step S₁) q).from S₁.lk
theorem wr_call (h : Rz G f xs C) (ha : EvL G K ρ σ es xs) (hs : es.all notStar = true := by rfl) (hg : globOK K f = true := by decide +kernel) : WR G K (.Expr (.Call (.Name f q') es [] pc) p :: ss) ρ σ C :=
  wr_here fun A env F s k => wpAny_Expr_any (rz_call h ha k hs hg) (by unfold interactive; rw [k.e.kind]; rfl) rfl
theorem wr_asg {n : Str} (h : Rz G f xs C) (ha : EvL G K ρ σ es xs) (hs : es.all notStar = true := by rfl) (hg : globOK K f = true := by decide +kernel) : WR G K (.Assign [.Name n q] (.Call (.Name f q') es [] pc) p :: ss) ρ σ C :=
  wr_here fun A env F s k => wpAny_Assign_Name (rz_call h ha k hs hg) rfl
theorem mem_frames {b : Addr} {l : List Env} (h : b ∈ l.filterMap (·.frame)) : ∃ env ∈ l, env.frame = some b := List.mem_filterMap.mp h
theorem fun_frames {B h : Heap} {l : List Env} (fr : FrOk F h l) (hB : ∀ L, F L = none → (∃ env ∈ l, env.frame = some L) → B.get? L = none) : h.FunFrames B l := by
  induction l with
  | nil => trivial
  | cons env r ih =>
    obtain ⟨hk, L, hf, hF, o, es, n, ho, hd⟩ := fr env (List.mem_cons_self ..)
    exact ⟨hk, ⟨L, o, hf, hB L hF ⟨env, List.mem_cons_self .., hf⟩, ho, fun vs q => nomatch hd.symm.trans q⟩, ih (fun e m => fr e (List.mem_cons_of_mem _ m)) fun L hF q => hB L hF (q.imp fun e t => ⟨List.mem_cons_of_mem _ t.1, t.2⟩)⟩
theorem wr_raise {n : Str} {a : Str} {kk : Nat} {pa : Pos} (X : XC G n C) (hg : globOK K n = true := by decide +kernel) : WR G K (.Raise (some (.Call (.Name n q) [.Constant (.str a) kk pa] [] pc)) none p :: ss) ρ σ C :=
  wr_here fun A env F s k => by
    obtain ⟨tl, N, nm, qn, bs, hdct, sn, sub, ab, col, dd, k0, k1, k2, k3, k5, mN, hC, hN, hni, T⟩ := X.own.obj
    refine wpAny_Raise_call_subU (C := C) (nm := nm) (q := qn) (N := N) (bs := bs) (bm := tl) (hdct := hdct) (sn := sn) (sub := sub) (ab := ab) (col := col) (dd := dd) (k0 := k0) (k1 := k1) (k2 := k2) (k3 := k3) (k5 := k5)
      (Fn := PySem.F.excBase_ValueError) (hBn := by decide +kernel) (F := PySem.F.excBase_ValueError) (mN := mN) (T.hasType (by decide +kernel)) k.e.rm.handled (by rw [back_star pc env rfl]; rfl) hni (name_global k.e (.inl X.own.bound) hg ⟨rfl, ?_⟩)
    rw [back_star pc env rfl]
    refine Calls.evalArgs_plain (Calls.spliced_cons (ev_str.bind k.e fun v F₁ s₁ S₁ r₁ k₁ => Calls.spliced_nil ?_))
    refine ⟨rfl, show 1 ≤ sizeLine by decide, k₁.rm.in _ _ hC, hN.keeps k₁.rm.in, T.keeps k₁.rm.in, fun h' e hm => ?_⟩
    obtain ⟨outer, hA⟩ := k.top
    obtain ⟨l, hl, fr⟩ := k₁.rm.frames
    cases hA.symm.trans hl
    obtain ⟨_, L, hL, _⟩ := fr env (List.mem_cons_self ..)
    obtain ⟨t, he, _, _⟩ := hm.there
    -- the base: all but the frames
    let B := hideAll s₁.heap ((env :: outer).filterMap (·.frame))
    have gB : ∀ b o, s₁.heap.get? b = some o → (∃ env' ∈ env :: outer, env'.frame = some b) ∨ B.get? b = some o := fun b o e => (Classical.em (b ∈ (env :: outer).filterMap (·.frame))).imp mem_frames fun m => hideAll_get _ e m
    have st : B.StaysIn h' := fun b o e => hm.keeps b o (of_hideAll _ e)
    have kp : St N0 F₁ s₁ F₁ { s₁ with heap := h' } := .grow (t := s₁.toks) k₁.rm.sub hm.keeps
    refine ⟨e, ρ, σ, F₁, s₁, F₁, B, L, outer, rfl, hA, hL, k.step S₁, S₁.lk, kp, ⟨fun a o ea => ?_, fun b o eb => ?_⟩, st, ?_, ?_, .inl ⟨_, _, .ref t, he, rfl, rfl, rfl, rfl⟩⟩
    · refine (gB a o (k₁.rm.sub a o ea)).elim (fun q => ?_) id
      obtain ⟨env', m, hf⟩ := q
      obtain ⟨_, L', hf', hF, _⟩ := fr env' m
      cases hf.symm.trans hf'
      exact nomatch hF.symm.trans ea
    · refine ⟨o, hm.keeps _ _ eb, (gB b o eb).elim (fun q => .inr ?_) .inl⟩
      obtain ⟨env', m, hf⟩ := q
      obtain ⟨_, L', hf', _, o', es, n, ho, hd⟩ := fr env' m
      cases hf.symm.trans hf'
      cases eb.symm.trans ho
      exact ⟨es, n, hd⟩
    · cases hq : B.get? e with
      | none => rfl
      | some o => exact nomatch hm.new.symm.trans (of_hideAll _ hq)
    · exact fun_frames (fun env' m => (fr env' m).imp id fun t => t.imp fun _ t => ⟨t.1, t.2.1, t.2.2.imp fun _ t => t.imp fun _ t => t.imp fun _ t => ⟨hm.keeps _ _ t.1, t.2⟩⟩) fun L _ q => hideAll_none _ (List.mem_filterMap.mpr (q.imp fun _ t => t))
theorem rzO_of {np : Nat} {sts : List Stmt} {fa : Addr} (FA : FnO G.B fa K np sts) (hlen : xs.length = np) (hd : 0 < G.d) (h : WR G.dn K sts (xs ++ List.replicate (K.ns.length - np) .unb) σ0 C) : ∀ A F s vs, Rm G A F s → RelL F xs vs → wpAny G.M A (call (.ref fa) vs) (fun _ _ => False) (PE A F s C) s := fun A F s vs k r =>
  wpAny_call (enter_core FA hlen hd k r (σ := σ0) (fun _ _ q => nomatch q) fun env s₁ k₁ S₁ hown _ => by
    obtain ⟨l, hl, _⟩ := k.frames
    refine wpAny_mono (h _ _ _ _ k₁) (fun _ _ q => q.elim) fun v s' q => px_leave q fun e ρ₂ σ₂ F₂ s₂ F' B outer a0 h' hv H x => ?_
    cases (Around.frames_deeper hl).symm.trans H.hfr
    exact ⟨e, F', B, a0, l, hv, hl, S₁.then (H.l.trans H.S.lk).S fun b o e q => q.elim (fun q => nomatch e.symm.trans (hown b q)) fun q => q.elim fun _ q => (nomatch q), (H.c.from H.l.S).from S₁, x⟩)
theorem rz_of {np : Nat} {sts : List Stmt} (FA : FnAt G.B G.mg f K np sts) (hlen : xs.length = np) (hd : 0 < G.d) (h : WR G.dn K sts (xs ++ List.replicate (K.ns.length - np) .unb) σ0 C) : Rz G f xs C :=
  ⟨FA.obj.imp fun _ q => q.imp fun _ q => ⟨q.1, q.2.1, q.2.2.1⟩, rzO_of FA.o hlen hd h⟩
end
end Mine

set_option autoImplicit false
set_option linter.all false
set_option genSizeOf false
set_option genInjectivity false
set_option maxRecDepth 100000
namespace Mine
open PySem PyProof.Rows PySem.W

/-! ## isinstance of an exception -/
def IX (G : Gl) (C : Addr) (c : Value) (b : Bool) : Prop := ∀ A s E (Q : Value → Shared → Prop) e oe, (∀ a o, G.B.get? a = some o → s.heap.get? a = some o) → s.heap.get? e = some oe → oe.cls = .ref C → Q (.bool b) s → wpAny G.M A (call (.builtin "isinstance") [.ref e, c]) Q E s
def mroAt (mg : Str → Option Value) (h : Heap) (x t : Str) (b : Bool := true) : Prop := ∃ C T o cd, mg x = some (.ref C) ∧ mg t = some (.ref T) ∧ h.get? C = some o ∧ o.data = .cls cd ∧ cd.mro.contains (.ref T) = b
section
variable {G : Gl} {x t : Str} {C T : Addr}
theorem ix_val (X : XC G x C) : IX G C (.type "ValueError") true := fun A s E Q e oe hB he hcls hq => by
  obtain ⟨tl, N, nm, qn, bs, hdct, sn, sub, ab, col, dd, k0, k1, k2, k3, k5, mN, hC, hN, hni, Tl⟩ := X.own.obj
  have hC' := hB _ _ hC
  have hin : (Value.ref C :: tl).contains (.type "ValueError") = true := by rw [List.contains_cons, Tl.hasType (show vbm.contains (.type "ValueError") = true by decide +kernel), Bool.or_true]
  refine call_isinstance_of ?_ (by intro e; cases e)
  unfold Builtin.«isinstance.nested»
  obtain ⟨hh, g, d, tk, os⟩ := s
  repeat (first | (with_reducible refine wpAny_loadPart_at he ?_; rw [hcls]) | (with_reducible refine wpAny_isSubtype_exc hC' ?_; rw [hin]) | wp_step)
  exact hq
theorem ix_own (X : XC G x C) (XT : XC G t T) (hm : mroAt G.mg G.B x t) : IX G C (.ref T) true := fun A s E Q e oe hB he hcls hq => by
  obtain ⟨tl, N, nm, qn, bs, hdct, sn, sub, ab, col, dd, k0, k1, k2, k3, k5, mN, hC, hN, hni, Tl⟩ := X.own.obj
  obtain ⟨tl', N', nm', qn', bs', hdct', sn', sub', ab', col', dd', k0', k1', k2', k3', k5', mN', hT, _, _, _⟩ := XT.own.obj
  have hC' := hB _ _ hC
  have hT' := hB _ _ hT
  have hin : (Value.ref C :: tl).contains (.ref T) = true := by
    obtain ⟨C₁, T₁, o, cd, h1, h2, h3, h4, h5⟩ := hm
    cases X.own.bound.symm.trans h1
    cases XT.own.bound.symm.trans h2
    cases hC.symm.trans h3
    cases h4
    exact h5
  refine call_isinstance_of ?_ (by intro e; cases e)
  unfold Builtin.«isinstance.nested»
  obtain ⟨hh, g, d, tk, os⟩ := s
  by_cases hCT : C = T
  · subst hCT
    repeat (first | (with_reducible refine wpAny_loadPart_at he ?_; rw [hcls]) | (with_reducible refine wpAny_isSubtype_exc hC' ?_; rw [hin]) | with_reducible refine wpAny_loadPart_at hT' ?_ | wp_step)
    exact hq
  · have hne : (Value.ref C == Value.ref T) = false := by simp [hCT]
    repeat (first | (with_reducible refine wpAny_loadPart_at he ?_; rw [hcls]) | (with_reducible refine wpAny_isSubtype_exc hC' ?_; rw [hin]) | with_reducible refine wpAny_loadPart_at hT' ?_ | rw [hne] | wp_step)
    exact hq
end
/-! ## in a handler's suite -/
structure SG (G : Gl) (K : Sx) (env : Env) (F : Fz) (s : Shared) : Prop where
  go : G.Ok
  base : ∀ a o, G.B.get? a = some o → F a = some o
  sub : ∀ a o, F a = some o → s.heap.get? a = some o
  sc : env.scope = K.sc
  kind : env.scope.kind = .function
  globals : env.globals = mainGlobals
  builtins : env.builtins = builtinsNs
structure SOk (G : Gl) (K : Sx) (env : Env) (n : Str) (e C : Addr) (F : Fz) (s : Shared) : Prop where
  g : SG G K env F s
  loc : ∃ m, s.heap.Ns env.locals m ∧ m n = some (.ref e)
  exc : ∃ oe vs, s.heap.get? e = some oe ∧ oe.cls = .ref C ∧ oe.data = .fields vs
def ES (G : Gl) (K : Sx) (n : Str) (C : Addr) (ex : PySem.Expr) (x : V) : Prop := ∀ A env e F s E, SOk G K env n e C F s → wpAny G.M A (eval ex env) (PV F s x) E s
def locOK (K : Sx) (n : Str) : Bool := K.sc.names.lookup n == some .local && !(n == ("__debug__" : Str))
section
variable {G : Gl} {K : Sx} {A : Around} {env : Env} {n t : Str} {e C : Addr} {F : Fz} {s : Shared} {E : Value → Shared → Prop} {c : Value} {p q q₁ q₂ q₃ q₄ : Pos} {b : Bool} {ex : PySem.Expr} {x y : V}
theorem SG.in (k : SG G K env F s) : ∀ b o, G.B.get? b = some o → s.heap.get? b = some o := fun b o h => k.sub b o (k.base b o h)
theorem SG.same (k : SG G K env F s) {v : Value} {tk : Nat} (r : Rel F x v) : PV F s x v { s with toks := tk } := ⟨F, .grow k.sub fun _ _ e => e, r⟩
theorem SG.glob {x : Str} {Q : Value → Shared → Prop} (k : SG G K env F s) (hv : G.mg x = some c ∨ (G.mg x = none ∧ G.mb x = some c)) (h : globOK K x = true) (h2 : Q c s) : wpAny G.M A (eval (.Name x p) env) Q E s := by
  have hg := globOK_inv h
  refine Calls.Name_function_global k.kind (by show env.scope.names.lookup x = _; rw [k.sc]; exact hg.1) ?_ hg.2
  have hG : s.heap.Ns env.globals G.mg := by rw [k.globals]; exact k.go.g.keeps k.in
  exact hv.elim (fun hv => Calls.loadGlobal_global hG hv h2) fun hv => Calls.loadGlobal_builtin hG hv.1 (by rw [k.builtins]; exact k.go.b.keeps k.in) hv.2 h2
theorem es_inst (hi : IX G C c b) (hv : G.mg t = some c ∨ (G.mg t = none ∧ G.mb t = some c)) (hn : locOK K n = true := by decide +kernel) (h1 : globOK K "isinstance" = true := by decide +kernel) (h2 : globOK K t = true := by decide +kernel) : ES G K n C (.Call (.Name "isinstance" q) [.Name n q₁, .Name t q₂] [] p) (.bool b) := fun A env e F s E k => by
  refine wpAny_Call_NameR (k.g.glob (.inr (k.g.go.blt 1 _ _ rfl)) h1 ?_)
  rw [back_star p env rfl]
  obtain ⟨m, hm, hme⟩ := k.loc
  obtain ⟨oe, vs, he, hc, _⟩ := k.exc
  have hn := Bool.and_eq_true_iff.mp hn
  refine Calls.callWith_builtin (any_false [_, _] env) (evalArgs_list (all_false [_, _] env) (Calls.spliced_cons (wpAny_Name (wpAny_loadName_local k.g.kind (by show env.scope.names.lookup n = _; rw [k.g.sc]; exact eq_of_beq hn.1) hm hme (Calls.spliced_cons (k.g.glob hv h2 (Calls.spliced_nil ?_)))) ((Bool.not_eq_true' _).mp hn.2))))
  exact hi A s E _ e oe k.g.in he hc (k.g.same (tk := s.toks) rfl)
theorem es_and {l r : PySem.Expr} (h1 : ES G K n C l (.bool true)) (h2 : ES G K n C r (.bool b)) (st : ∀ {env : Env} {e : Addr} {F F' : Fz} {s s' : Shared}, SOk G K env n e C F s → St N0 F s F' s' → SOk G K env n e C F' s') : ES G K n C (.BoolOp .And [l, r] p) (.bool b) := fun A env e F s E k => by
  show wpAny _ A (do
      let v ← eval l env
      standAt p
      let b ← holding [v] (truthy v)
      match BoolOp.And, b with
      | .And, false | .Or, true => pure v
      | _, _ => boolOp p .And (evalEach [r] env)) _ _ s
  refine wpAny_bind (wpAny_mono (h1 A env e F s E k) (fun v s₁ q => ?_) fun _ _ e => e)
  obtain ⟨F₁, S₁, r₁⟩ := q
  cases show v = .bool true from r₁
  refine wpAny_bind (wpAny_standAt (wpAny_bind (wpAny_holding (wpAny_truthy_bool ?_))))
  exact wp_from S₁ (h2 A env e F₁ s₁ E (st k S₁))
theorem SOk.step {F' : Fz} {s' : Shared} (k : SOk G K env n e C F s) (S : St N0 F s F' s') : SOk G K env n e C F' s' :=
  ⟨⟨k.g.go, fun a o e => S.up a o (k.g.base a o e), S.sub, k.g.sc, k.g.kind, k.g.globals, k.g.builtins⟩, k.loc.imp fun m q => ⟨ns_keepO q.1 fun o e => S.keepO _ o e id, q.2⟩, k.exc.imp fun oe q => q.imp fun vs q => ⟨S.keep _ _ q.1 id (fun _ _ h => nomatch q.2.2.symm.trans h), q.2⟩⟩
/-- isinstance(e, T) and isinstance(e, ValueError) -/
theorem es_both {x : Str} {T : Addr} {r₁ r₂ r₃ r₄ r₅ r₆ r₇ r₈ r₉ : Pos} (X : XC G x C) (XT : XC G t T) (hm : mroAt G.mg G.B x t) (hV : G.mg "ValueError" = none ∧ G.mb "ValueError" = some (.type "ValueError")) (hn : locOK K n = true := by decide +kernel) (h1 : globOK K "isinstance" = true := by decide +kernel) (h2 : globOK K t = true := by decide +kernel) (h3 : globOK K "ValueError" = true := by decide +kernel) :
    ES G K n C (.BoolOp .And [.Call (.Name "isinstance" r₁) [.Name n r₂, .Name t r₃] [] r₄, .Call (.Name "isinstance" r₅) [.Name n r₆, .Name "ValueError" r₇] [] r₈] r₉) (.bool true) :=
  es_and (es_inst (ix_own X XT hm) (.inl XT.own.bound) hn h1 h2) (es_inst (ix_val X) (.inr hV) hn h1 h3) SOk.step
end
/-! ## try -/
section
variable {G : Gl} {K : Sx} {A : Around} {env : Env} {ρ : List V} {σ : Ow} {F : Fz} {s : Shared} {E : Value → Shared → Prop} {Q : KS} {ss body : List Stmt} {C : Addr} {p np pos : Pos} {x n : Str} {z : V} {hs : List ExceptHandler} {h₀ : ExceptHandler}
theorem ws_try_ok (h : WS G K body ρ σ (Kc G K ss Q)) : WS G K (.Try body (h₀ :: hs) [] [] p :: ss) ρ σ Q :=
  ws_cons fun A env F s E k => wpAny_Try_except (wpAny_mono (h A env F s _ k) (fun f s₁ q => q.casesOn fun fl ρ' σ' F' hf k' L q => by
    cases f <;> cases fl <;> first | exact hf.elim | skip
    · exact wpAny_execs_nil ⟨.next, ρ', σ', F', trivial, k', L, q⟩
    · exact ⟨_, ρ', σ', F', hf, k', L, q⟩) fun _ _ e => e)
theorem unb_get {n i : Nat} {v : V} (h : (List.replicate n V.unb)[i]? = some v) : v = .unb := by
  obtain ⟨_, h⟩ := List.getElem?_eq_some_iff.mp h
  rw [List.getElem_replicate] at h; exact h.symm
/-- the frame's names are forgotten -/
theorem FOk.forget (k : FOk G K A env ρ σ F s) {h' : Heap} {t : Nat} {m : Str → Option Value} (hn : h'.Ns env.locals m) (hs : Heap.SameBut env.locals s.heap h') : FOk G K A env (List.replicate K.ns.length .unb) σ F { s with heap := h', toks := t } ∧ Lk env σ F s σ F { s with heap := h', toks := t } := by
  obtain ⟨mm, ⟨o, es, ep, ho, hd, hr⟩, vars⟩ := k.e.loc.vars
  have up : ∀ b o, b ≠ env.locals → s.heap.get? b = some o → h'.get? b = some o := hs.extBut
  have ncell : ∀ {c : Addr} {ov : Option Value}, s.heap.IsCell c ov → h'.IsCell c ov := fun h => h.sameBut hs (by rintro rfl; obtain ⟨oc, hoc, hdc⟩ := h; rw [ho] at hoc; cases hoc; rw [hd] at hdc; cases hdc)
  obtain ⟨o', es', ep', ho', hd', _⟩ := id hn
  refine ⟨⟨⟨⟨k.e.rm.go, k.e.rm.base, fun a o e => up a o (by rintro rfl; exact nomatch k.e.loc.out.symm.trans e) (k.e.rm.sub a o e), k.e.rm.depth, k.e.rm.units, k.e.rm.handled, k.e.rm.frs fun L _ hL t => ⟨hL, (Classical.em (L = env.locals)).elim (fun e => by subst e; exact ⟨o', es', ep', ho', hd'⟩) fun e => t.imp fun _ t => t.imp fun _ t => t.imp fun _ t => ⟨up _ _ e t.1, t.2⟩⟩⟩,
    k.e.sc, k.e.kind, k.e.globals, k.e.builtins, fun a xs q => (k.e.own a xs q).imp id fun t => t.imp fun vs t => t.imp fun n t => ⟨up _ _ (by rintro rfl; rw [ho] at t; cases t.1; cases hd) t.1, t.2⟩,
    ⟨List.length_replicate, k.e.loc.out, m, hn, fun i y v hy hv => ?_⟩⟩, k.top, k.apart, k.nodup, fun x c hc => (k.own x c hc).imp (fun h => h.imp fun _ h => ncell h) id⟩,
    ⟨St.change k.e.rm.sub k.e.loc.out (.inl (.inl (.inl rfl))) hs.extBut ⟨o', ho', fun _ _ _ _ _ => ⟨es', ep', hd'⟩⟩, fun b xs q => .inl ⟨xs, q⟩⟩⟩
  cases unb_get hv
  have hi : i < ρ.length := by rw [k.e.loc.len]; exact (List.getElem?_eq_some_iff.mp hy).1
  exact ⟨fun _ h => absurd rfl h, fun hc => ((vars i y _ hy (List.getElem?_eq_getElem hi)).2 hc).imp fun c u => u.imp fun ov u => ⟨u.1, ncell u.2.1, fun h => absurd rfl h, u.2.2.2⟩⟩
theorem FOk.sg (k : FOk G K A env ρ σ F s) : SG G K env F s := ⟨k.e.rm.go, k.e.rm.base, k.e.rm.sub, k.e.sc, k.e.kind, k.e.globals, k.e.builtins⟩
/-- the first clause catches -/
theorem caught {b₀ : Stmt} {suite : List Stmt} {e : Addr} {ρ₁ : List V} {σ₁ : Ow} {F₁ F' : Fz} {s₁ s' : Shared} {B : Heap} {a0 : Value} {outer : List Env} (X : XC G x C) (H : Hld G K A env σ F s e ρ₁ σ₁ F₁ s₁ F' B outer s') (hfl : Heap.FlyingW B (env :: outer) e (.ref C) a0 s'.heap)
    (hsuite : ∀ A env e F s E, SOk G K env n e C F s → wpAny G.M A (execs (b₀ :: suite) env) (fun f s' => ∃ v, f = .ret v ∧ PV F s z v s') E s) (hq : ∀ σ, Q (.ret z) (List.replicate K.ns.length .unb) σ) (hn : locOK K n = true) (hg : globOK K x = true) :
    wpAny G.M A (handleBy (.ref e) env (.ExceptHandler (some (.Name x np)) (some n) (b₀ :: suite) pos :: hs)) (PS G K A env σ F s Q) E s' := by
  have k := H.k.step H.S
  obtain ⟨oe, vs, he, hc, hd, _⟩ := hfl.first
  have hnl : env.kindOf n = some .local := by show env.scope.names.lookup n = _; rw [k.e.sc]; exact eq_of_beq (Bool.and_eq_true_iff.mp hn).1
  have hp : (env.scope.kind == .class || (env.scope.kind == .module && env.locals != env.globals)) = false := by rw [k.e.kind]; rfl
  refine handleBy_own_as (C := C) (x := x) (bmB := vbm) (newId := "ValueError.__new__") (mg := G.mg) (by decide +kernel) (k.sg.glob (.inl X.own.bound) hg ⟨rfl, X.keeps k.e.rm.in, ⟨oe, he, hc⟩, ?_⟩)
  refine lands_againW hfl fun h₂ hfl₂ u₂ => ?_
  have H₂ := H.turn hfl₂.1 u₂
  have k₂ := H₂.k.step H₂.S
  obtain ⟨m, hm, _⟩ := k₂.e.loc.vars
  obtain ⟨oe₂, vs₂, he₂, hc₂, hd₂, _⟩ := hfl₂.first
  refine wpAny_storeName_local hnl hm (fun h₃ hn₃ hs₃ => ?_) hp
  obtain ⟨k₃, L₃⟩ := k₂.forget (t := s'.toks + 1) hn₃ hs₃
  have he₃ : h₃.get? e = some oe₂ := hs₃.extBut e oe₂ (by rintro rfl; obtain ⟨o, es, ep, ho, hdd, _⟩ := hm; rw [he₂] at ho; cases ho; rw [hd₂] at hdd; cases hdd) he₂
  have K₃ : SOk G K env n e C F' { s' with heap := h₃, toks := s'.toks + 1 } := ⟨k₃.sg, ⟨_, hn₃, if_pos rfl⟩, oe₂, vs₂, he₃, hc₂, hd₂⟩
  refine wpAny_mono (hsuite _ env e F' _ _ K₃) (fun f s₄ q => ?_) fun _ _ e => e
  obtain ⟨v, rfl, F₄, S₄, r₄⟩ := q
  obtain ⟨m₄, hm₄, _⟩ := (K₃.step S₄).loc
  refine wpAny_nameGoes hnl hm₄ hp fun h₅ m₅ hn₅ hs₅ => ?_
  obtain ⟨k₅, L₅⟩ := (k₃.step S₄).forget (t := s₄.toks + 1) hn₅ hs₅
  exact ⟨.ret z, _, σ₁, F₄, r₄, k₅, ((((H₂.l.trans H₂.S.lk).trans L₃).trans S₄.lk).trans L₅), hq σ₁⟩
theorem ws_try {b₀ : Stmt} {suite : List Stmt} (hb : WR G K body ρ σ C) (X : XC G x C)
    (hsuite : ∀ A env e F s E, SOk G K env n e C F s → wpAny G.M A (execs (b₀ :: suite) env) (fun f s' => ∃ v, f = .ret v ∧ PV F s z v s') E s) (hq : ∀ ρ σ, Q (.ret z) ρ σ) (hn : locOK K n = true := by decide +kernel) (hg : globOK K x = true := by decide +kernel) :
    WS G K (.Try body (.ExceptHandler (some (.Name x np)) (some n) (b₀ :: suite) pos :: hs) [] [] p :: ss) ρ σ Q :=
  ws_cons fun A env F s E k => wpAny_Try_except (wpAny_mono (hb A env F s k) (fun _ _ q => q.elim) fun v s₁ q => px_note q fun e ρ₁ σ₁ F₁ s₁ F' B L outer a0 h₁ hv hf H hh => by
    subst hv
    refine wpAny_landsW hh fun h₂ hfl u => ?_
    exact caught X (H.turn hfl.1 u) hfl hsuite (fun σ => hq _ σ) hn hg)
theorem suite_ret {ex : PySem.Expr} {pr : Pos} (h : ES G K n C ex z) : ∀ A env e F s E, SOk G K env n e C F s → wpAny G.M A (execs [.Return (some ex) pr] env) (fun f s' => ∃ v, f = .ret v ∧ PV F s z v s') E s := fun A env e F s E k =>
  wpAny_execs_cons (wpAny_Return_some (wpAny_mono (h A env e F s E k) (fun v s' q => ⟨v, rfl, q⟩) fun _ _ e => e))
end
end Mine

set_option autoImplicit false
set_option linter.all false
set_option maxRecDepth 100000
namespace Mine
open PySem PyProof.Rows PySem.W
/-! ## which classes are made from which -/
def mroB (s : Shared) (x t : Str) (b : Bool) : Bool := match s.heap.nsMap mainGlobals x, s.heap.nsMap mainGlobals t with
  | some (.ref C), some (.ref T) => (match s.heap.get? C with
    | some o => (match o.data with
      | .cls cd => cd.mro.contains (.ref T) == b
      | _ => false)
    | none => false)
  | _, _ => false
theorem mroB_at {s : Shared} {x t : Str} {b : Bool} (h : mroB s x t b = true) : mroAt (s.heap.nsMap mainGlobals) s.heap x t b := by
  unfold mroB at h
  split at h
  · rename_i C T h1 h2
    split at h
    · rename_i o h3
      split at h
      · rename_i cd h4
        exact ⟨C, T, o, cd, h1, h2, h3, h4, eq_of_beq h⟩
      · cases h
    · cases h
  · cases h
def MroP (l : List (Str × Str × Bool)) (mg : Str → Option Value) (h : Heap) : Prop := ∀ p ∈ l, mroAt mg h p.1 p.2.1 p.2.2
theorem mroP_of {l : List (Str × Str × Bool)} {s : Shared} (h : (l.all fun p => mroB s p.1 p.2.1 p.2.2) = true) : MroP l (s.heap.nsMap mainGlobals) s.heap := fun p hp => mroB_at (List.all_eq_true.mp h p hp)
theorem MroP.keeps {l : List (Str × Str × Bool)} (mg : Str → Option Value) (h h' : Heap) (x : MroP l mg h) (k : ∀ b o, h.get? b = some o → h'.get? b = some o) : MroP l mg h' := fun p hp =>
  (x p hp).imp fun _ q => q.imp fun _ q => q.imp fun _ q => q.imp fun _ q => ⟨q.1, q.2.1, k _ _ q.2.2.1, q.2.2.2⟩
theorem top_own {p : Program} {loose : List Str} {mean : ExcName → Option Value} {mg mb : Str → Option Value} {h : Heap} (T : Top p loose mean mg mb h) {x : Str} (hs : specOf p x = some ("ValueError.__new__", vbm)) : ∃ C, OwnClsQ x C vbm "ValueError.__new__" mg h := (T.ownAt hs).imp fun _ q => q.1
theorem top_val {p : Program} {loose : List Str} {mean : ExcName → Option Value} {mg mb : Str → Option Value} {h : Heap} (T : Top p loose mean mg mb h) (hk : freeChk p loose "ValueError" = true) : mg "ValueError" = none ∧ mb "ValueError" = some (.type "ValueError") :=
  (top_builtin T hk).imp id fun q => q.trans (by decide +kernel)
theorem top_sys {p : Program} {loose : List Str} {mean : ExcName → Option Value} {mg mb : Str → Option Value} {h : Heap} (T : Top p loose mean mg mb h) (hi : importsNone p = true) : ∃ o, h.get? sysModules = some o := by
  obtain ⟨mm, hm, _⟩ := (T.seer hi).mods
  exact Ns_obj hm
end Mine

set_option autoImplicit false
set_option linter.all false
set_option genSizeOf false
set_option genInjectivity false
set_option maxRecDepth 100000
namespace Mine
open PySem PyProof.Rows PySem.W

/-! ## a loop of which a turn raises -/
section
variable {G : Gl} {K : Sx} {A : Around} {env : Env} {ρ : List V} {σ : Ow} {F : Fz} {s : Shared} {ss body : List Stmt} {C : Addr} {p : Pos} {e t : PySem.Expr} {x : V} {xs : List V}
theorem wr_for (I : Nat → List V → Ow → Prop) (j : Nat) (hj : j < xs.length) (h1 : Ev G K ρ σ e x) (hi : itemsOf x = some xs) (h0 : I 0 ρ σ) (turn : ∀ (i : Nat) ρ σ y, i < j → xs[i]? = some y → I i ρ σ → ∃ ρ', Asg G K t y ρ ρ' ∧ WS G K body ρ' σ (Kf I (i + 1) fun _ _ _ => False))
    (last : ∀ ρ σ y, xs[j]? = some y → I j ρ σ → ∃ ρ', Asg G K t y ρ ρ' ∧ WR G K body ρ' σ C) (hns : ∀ env v, foldedSetIterable e env v = pure v := by intros; rfl) : WR G K (.For t e body [] p :: ss) ρ σ C :=
  wr_here fun A env F s k => for_core (R := fun _ _ => False) (Ex := PX G K A env σ F s C) (fun i ρ σ _ _ => i ≤ j ∧ I i ρ σ) k (St.refl k.e.rm.sub).lk (h1.bind k.e fun v F₁ s₁ S r _ => ⟨F₁, S, r, Nat.zero_le _, h0⟩) hi (fun _ _ h => px_loop h) (fun _ _ _ _ _ _ h _ => h) (fun i ρ' σ' F' s' y v hy k' L' hI hr => by
    rcases Nat.lt_or_ge i j with hlt | hge
    · obtain ⟨ρ₂, ha, hb⟩ := turn i ρ' σ' y hlt hy hI.2
      refine ha A env σ' F' s' _ v _ k' hr fun h₂ t₂ k₂ L₂ _ => wpAny_mono (hb A env F' _ _ k₂) (fun f s₃ h => h.casesOn fun fl ρ₃ σ₃ F₃ hf k₃ L₃ q => ⟨fl, ρ₃, σ₃, F₃, hf, k₃, L'.trans (L₂.trans L₃), (L₂.trans L₃).recs k', ?_, ?_⟩) fun _ _ e => e
      · rintro rfl; exact ⟨hlt, q⟩
      · rintro x rfl; exact q
    · cases Nat.le_antisymm hI.1 hge
      obtain ⟨ρ₂, ha, hb⟩ := last ρ' σ' y hy hI.2
      exact ha A env σ' F' s' _ v _ k' hr fun h₂ t₂ k₂ L₂ _ => wpAny_mono (hb A env F' _ k₂) (fun _ _ q => q.elim) fun _ _ q => q.from (L'.trans L₂)) (fun ρ' σ' F' s' _ _ hI => absurd hI.1 (Nat.not_le.mpr hj)) (hns env)
theorem execs_app {M : Model} {Γ : _} {E : Value → _ → Shared → Prop} {Q : Flow → Shared → Prop} : ∀ (as : List Stmt) p s, Sem.wp M Γ (execs as env) (fun f _ s' => match f with | .next => ∀ p', Sem.wp M Γ (execs ss env) (fun f _ s => Q f s) E p' s' | f => Q f s') E p s → Sem.wp M Γ (execs (as ++ ss) env) (fun f _ s => Q f s) E p s
  | [], p, s, h => h p
  | st :: as, p, s, h => by
    show Sem.wp M Γ (execs (st :: (as ++ ss)) env) _ E p s
    rw [execs_cons, Sem.wp_bind'] at h ⊢
    refine Sem.wp_mono M Γ _ (fun f p' s' h' => ?_) (fun _ _ _ h' => h') _ _ h
    cases f <;> first | exact execs_app as p' s' h' | exact h'
theorem wr_seqs (as : List Stmt) (h : WS G K as ρ σ fun fl ρ' σ' => fl = .next ∧ WR G K ss ρ' σ' C) : WR G K (as ++ ss) ρ σ C := fun A env F s k Γ p hΓ => by
  refine execs_app as p s (Sem.wp_mono G.M Γ _ (fun f p' s' h' => ?_) (fun _ _ _ h' => h') _ _ (h A env F s _ k Γ p hΓ))
  exact h'.casesOn fun fl ρ' σ' F' hf k' L q => by
    cases q.1
    cases f <;> first | exact hf.elim | skip
    exact fun p' => wr_from L (q.2 A env F' s' k') Γ p' hΓ
end
end Mine

set_option autoImplicit false
set_option linter.all false
set_option genSizeOf false
set_option genInjectivity false
set_option maxRecDepth 100000
namespace Mine
open PySem PyProof.Rows PySem.W
/-! ## more expressions -/
section
variable {G : Gl} {K : Sx} {ρ : List V} {σ : Ow} {e l m r : PySem.Expr} {x y z : V} {p q : Pos} {b c : Bool} {i j k' : Int} {a : List Nat}
theorem ev_gint {n : Str} (h : ∃ t, G.mg n = some (.int i t)) (hg : globOK K n = true := by decide +kernel) : Ev G K ρ σ (.Name n p) (.int i) := fun A env F s E k => h.elim fun t h => name_global k (.inl h) hg (pv_same k ⟨t, rfl⟩)
theorem ev_chain {o₁ o₂ : CmpOp} (h1 : Ev G K ρ σ l x) (h2 : Ev G K ρ σ m y) (h3 : Ev G K ρ σ r z) (c1 : Cm G o₁ x y b) (c2 : Cm G o₂ y z c) (hm : lastMarks [o₁, o₂] [m, r] = false := by with_unfolding_all rfl) : Ev G K ρ σ (.Compare l [o₁, o₂] [m, r] p) (.bool (b && c)) := fun A env F s E k =>
  Compare_chain (h1.bind k fun v F₁ s₁ S₁ r₁ k₁ => chain_link (h2.bind k₁ fun w F₂ s₂ S₂ r₂ k₂ => c1 A F₂ s₂ E v w _ k₂.rm (r₁.mono S₂.up) r₂ (wpAny_truthy_bool (by
    cases b
    · rw [if_neg Bool.false_ne_true]; exact ⟨F₂, S₁.trans S₂, rfl⟩
    · rw [if_pos rfl]
      refine chain_last (h3.bind k₂ fun u F₃ s₃ S₃ r₃ k₃ => ?_)
      exact c2 A F₃ s₃ E w u _ k₃.rm (r₂.mono S₃.up) r₃ ⟨F₃, (S₁.trans S₂).trans S₃, rfl⟩)))) hm
theorem ev_ord {c : Nat} (h1 : Ev G K ρ σ e (.str [c])) (hs : notStar e = true := by rfl) (hg : globOK K "ord" = true := by decide +kernel) : Ev G K ρ σ (.Call (.Name "ord" q) [e] [] p) (.int c) :=
  ev_cb 8 rfl hg (by rw [List.all_cons, hs]; rfl) (evl_cons h1 evl_nil) fun A env F s E vs k r => by
    obtain ⟨v, rfl, t, rfl⟩ := rel1 r
    exact P.ord_of_char (pv_tok k.rm _ ⟨_, rfl⟩)
theorem bools_get {F : Fz} : ∀ {bs : List Bool} {vs : List Value}, RelL F (bs.map .bool) vs → vs = bs.map .bool
  | [], _, rfl => rfl
  | _ :: _, _, ⟨_, _, rfl, rfl, r⟩ => congrArg _ (bools_get r)
theorem ev_all {bs : List Bool} (h1 : Ev G K ρ σ e (.lst (bs.map .bool))) (hs : notStar e = true := by rfl) (hg : globOK K "all" = true := by decide +kernel) : Ev G K ρ σ (.Call (.Name "all" q) [e] [] p) (.bool (bs.all id)) :=
  ev_cb 9 rfl hg (by rw [List.all_cons, hs]; rfl) (evl_cons h1 evl_nil) fun A env F s E vs k r => by
    obtain ⟨v, rfl, r'⟩ := rel1 r
    obtain ⟨a, us, rfl, ⟨n, ha⟩, rl⟩ := r'
    cases bools_get rl
    have hl : s.heap.IsList a (bs.map Value.bool).toArray := ⟨_, k.rm.sub _ _ ha, rfl, n, rfl⟩
    have hne : a ≠ s.heap.objs.size := by rintro rfl; exact nomatch (size_none s.heap).symm.trans (k.rm.sub _ _ ha)
    refine call_all_walk (wpAny_pyIter_list hl ⟨_, _, _, _, _, _, fun i => bs.getD i true, rfl, Walks.list (by simp [k.rm.handled]) _ a hne _, ⟨⟨_, Heap.get?_push_size _ rfl, rfl, rfl⟩, hl.push _⟩, fun i v s' Q E' hv hQ => ?_, fun h' tk hk => ?_⟩)
    · have hv : bs[i]?.map Value.bool = some v := by simpa using hv
      obtain ⟨b, hb, rfl⟩ := Option.map_eq_some_iff.mp hv
      have hQ : Q (bs.getD i true) s' := hQ
      rw [List.getD_eq_getElem?_getD, hb] at hQ
      exact wpAny_truthy_bool hQ
    · have e : ((List.range (bs.map Value.bool).toArray.size).all fun i => bs.getD i true) = bs.all id := by
        rw [List.size_toArray, List.length_map, Bool.eq_iff_iff, List.all_eq_true, List.all_eq_true]
        constructor
        · intro h b hb
          obtain ⟨i, hi, rfl⟩ := List.getElem_of_mem hb
          have := h i (List.mem_range.mpr hi)
          rwa [List.getD_eq_getElem?_getD, List.getElem?_eq_getElem hi] at this
        · intro h i hi
          have hi := List.mem_range.mp hi
          rw [List.getD_eq_getElem?_getD, List.getElem?_eq_getElem hi]
          exact h _ (List.getElem_mem hi)
      rw [e]
      refine ⟨F, .grow (t := tk) k.rm.sub fun b o eb => hk b o ?_ (Heap.get?_push_of_some _ eb), rfl⟩
      rw [List.mem_singleton]; rintro rfl; exact nomatch (size_none s.heap).symm.trans eb
theorem ev_pow (h1 : Ev G K ρ σ l (.int i)) (h2 : Ev G K ρ σ r (.int j)) (hn : 0 ≤ j) (hn2 : j ≤ 1000000) (ha : i.natAbs < 2 ^ 64) : Ev G K ρ σ (.BinOp l .Pow r p) (.int (i ^ j.toNat)) :=
  ev_bin h1 h2 <| by rintro A F s E _ _ R ⟨_, rfl⟩ ⟨_, rfl⟩; exact pow_int_small hn hn2 ha (pv_tok R _ ⟨_, rfl⟩)
def isDict (_ : Addr) (o : Obj) (_ : Addr) (_ : Obj) : Prop := o.cls = .type "dict"
theorem ev_dict : Ev G K ρ σ (.Dict [] [] p) (.obj isDict) := fun A env F s E k =>
  wpAny_Dict_empty (pv_push (t := s.toks) k.rm { cls := .type "dict", data := .dict #[] } ⟨_, _, _, _, rfl, Fz.add_self, Fz.add_self, rfl⟩ rfl)
theorem is_dict_str : Inst G "str" (.obj isDict) false := by rintro A F s E _ R ⟨_, _, _, _, rfl, h, _, hc⟩; exact IsiPair.dict_str (R.sub _ _ h) hc (pv_tok R _ rfl)
theorem cm_eq_bool : Cm G .Eq (.bool b) (.bool c) (b == c) := by rintro A F s E _ _ R _ rfl rfl h; exact PySem.EqBoolInt.of_rc (SeqAt.RcAt.bool_bool b c) h
theorem cm_ne_bool : Cm G .NotEq (.bool b) (.bool c) (!(b == c)) := by rintro A F s E _ _ R _ rfl rfl h; exact PySem.EqBoolInt.of_rcne (SeqAt.RcNeAt.bool_bool b c) h
end
end Mine

set_option autoImplicit false
set_option linter.all false
set_option genSizeOf false
set_option genInjectivity false
set_option maxRecDepth 100000
namespace Mine
open PySem PyProof.Rows PySem.W

/-! ## an exception that is not of a class: its __class__ is asked -/
def OwnAt (h : Heap) (v : Value) : Prop := ∃ A o cd m, v = .ref A ∧ h.get? A = some o ∧ o.data = .cls cd ∧ h.Ns cd.ns m ∧ m "__class__" = none
def ClsP (mg : Str → Option Value) (h : Heap) (x : Str) : Prop := ∃ C o cd, mg x = some (.ref C) ∧ h.get? C = some o ∧ o.data = .cls cd ∧ cd.mro.drop 2 = vbm ∧ ∀ v ∈ cd.mro.take 2, OwnAt h v
def ownB (s : Shared) (v : Value) : Bool := match v with
  | .ref A => (match s.heap.get? A with
    | some o => (match o.data with
      | .cls cd => s.heap.isNs cd.ns && (s.heap.nsMap cd.ns "__class__").isNone
      | _ => false)
    | none => false)
  | _ => false
theorem ownB_at {s : Shared} {v : Value} (h : ownB s v = true) : OwnAt s.heap v := by
  unfold ownB at h
  split at h
  · split at h
    · rename_i o ho
      split at h
      · rename_i cd hd
        rw [Bool.and_eq_true] at h
        exact ⟨_, o, cd, _, rfl, ho, hd, .of_isNs h.1, Option.isNone_iff_eq_none.mp h.2⟩
      · cases h
    · cases h
  · cases h
def clsB (s : Shared) (x : Str) : Bool := match s.heap.nsMap mainGlobals x with
  | some (.ref C) => (match s.heap.get? C with
    | some o => (match o.data with
      | .cls cd => cd.mro.drop 2 == vbm && (cd.mro.take 2).all (ownB s)
      | _ => false)
    | none => false)
  | _ => false
theorem clsB_at {s : Shared} {x : Str} (h : clsB s x = true) : ClsP (s.heap.nsMap mainGlobals) s.heap x := by
  unfold clsB at h
  split at h
  · rename_i C hc
    split at h
    · rename_i o ho
      split at h
      · rename_i cd hd
        rw [Bool.and_eq_true] at h
        exact ⟨C, o, cd, hc, ho, hd, eq_of_beq h.1, fun v hv => ownB_at (List.all_eq_true.mp h.2 v hv)⟩
      · cases h
    · cases h
  · cases h
theorem OwnAt.keeps {h h' : Heap} {v : Value} (x : OwnAt h v) (k : ∀ b o, h.get? b = some o → h'.get? b = some o) : OwnAt h' v :=
  x.imp fun _ q => q.imp fun _ q => q.imp fun _ q => q.imp fun _ q => ⟨q.1, k _ _ q.2.1, q.2.2.1, q.2.2.2.1.keeps k, q.2.2.2.2⟩
theorem ClsP.keeps {x : Str} (mg : Str → Option Value) (h h' : Heap) (q : ClsP mg h x) (k : ∀ b o, h.get? b = some o → h'.get? b = some o) : ClsP mg h' x :=
  q.imp fun _ q => q.imp fun _ q => q.imp fun _ q => ⟨q.1, k _ _ q.2.1, q.2.2.1, q.2.2.2.1, fun v hv => (q.2.2.2.2 v hv).keeps k⟩
section
variable {M : Model} {prog : Program} {w : World} {A : Around} {E : Value → Shared → Prop} {h : Heap} {g : Array GenState} {d : Drawn} {t : Nat} {os : OsState} {a : Addr} {o : Obj}
  {nm q : Str} {C N : Addr} {bs bm : List Value} {hdct : Bool} {sn : List Str} {sub : List Value} {ab : Bool} {col : Option Bool} {dd : Option Addr} {k0 k1 k2 k3 k5 : Option Value} {newId : String}
theorem along {n : Str} {y : Option Value} {tl : List Value} {Q : Option Value → Shared → Prop} : ∀ (own : List Value), (∀ v ∈ own, ∃ A o cd m, v = .ref A ∧ h.get? A = some o ∧ o.data = .cls cd ∧ h.Ns cd.ns m ∧ m n = none) → lookupAlong tl n = pure y → Q y ⟨h, g, d, t, os⟩ → wpAny M A (lookupAlong (own ++ tl) n) Q E ⟨h, g, d, t, os⟩
  | [], _, e, hq => by show wpAny M A (lookupAlong tl n) Q E _; rw [e]; exact wpAny_pure hq
  | v :: own, hv, e, hq => by
    obtain ⟨A', ⟨c0, dd, dt, sl⟩, cd, m, rfl, h1, h2, h3, h4⟩ := hv v (List.mem_cons_self ..)
    cases h2
    show wpAny M A (lookupAlong (.ref A' :: (own ++ tl)) n) Q E _
    rw [lookupAlong_cons]
    refine wpAny_bind (wpAny_classOwn_cls h1 h3 ?_)
    rw [h4]
    exact along own (fun v hv' => hv v (List.mem_cons_of_mem _ hv')) e hq
theorem look_class {Q : Option Value → Shared → Prop} (hC : h.get? C = some (excClassObj nm q C N bs bm hdct sn sub ab col dd k0 k1 k2 k3 k5 newId)) (h2 : (Value.ref C :: bm).drop 2 = vbm) (ho : ∀ v ∈ (Value.ref C :: bm).take 2, OwnAt h v)
    (hq : Q (some (.builtin "object.__class__")) ⟨h, g, d, t, os⟩) : wpAny M A (typeLookup (.ref C) "__class__") Q E ⟨h, g, d, t, os⟩ := by
  have hB : typeLookup (.type "ValueError") "__class__" = pure (some (.builtin "object.__class__")) := by rw [typeLookup_type, builtinLookup_eq_fast]; kernel_rfl
  have hrest : lookupAlong vbm "__class__" = pure (some (.builtin "object.__class__")) := by rw [typeLookup_eq, (PySem.F.attrBase_ValueError).mro] at hB; exact hB
  rw [typeLookup_eq]
  refine wpAny_bind (wpAny_mroOf_exc hC ?_)
  rw [← List.take_append_drop 2 (Value.ref C :: bm), h2]
  exact along _ ho hrest hq
theorem kls_get {R : Result → Shared → Prop} (hC : h.get? C = some (excClassObj nm q C N bs bm hdct sn sub ab col dd k0 k1 k2 k3 k5 newId)) (hob : (Value.ref C :: bm).contains (.type "object") = true)
    (hx : h.get? a = some o) (hc : o.cls = .ref C) (hq : R (.ok (.ret (.ref C))) ⟨h, g, d, t, os⟩) :
    codeAny (model prog w) A (.call (.builtin "getset_descriptor.__get__") ⟨[.builtin "object.__class__", .ref a, .ref C], []⟩) R ⟨h, g, d, t, os⟩ := by
  have hT5 : (⟨h, g, d, t, os⟩ : Shared).TypeIs (.builtin "object.__class__") "getset_descriptor" := F.typeOf_object_class
  have hcB : (Value.ref C :: bm).contains (.type (".".intercalate ("object.__class__".cutAt '.').dropLast)) = true := by rw [F.owner_object_class]; exact hob
  refine codeAny_call_builtin F.slot_gs_get.plain F.entry_gs_get (F.slot_gs_get.check _ _ _ _ _ _ _ _ hT5 (F.args_gs_get _ _ _) ?_)
  repeat (any_goals (first | assumption | (with_reducible refine wpAny_loadPart_at hx ?_; rw [hc]) | (with_reducible refine wpAny_isSubtype_exc hC ?_; rw [hcB]) | wp_step))
  refine ⟨Code.quiet_builtin _ (by decide +kernel), codeAny_builtin F.entry_object_class ?_⟩
  repeat (any_goals (first | assumption | (with_reducible refine wpAny_loadPart_at hx ?_; rw [hc]) | wp_step))
theorem kls_entry {tk : Tok} {Q : Fin → Shared → Prop} (hC : h.get? C = some (excClassObj nm q C N bs bm hdct sn sub ab col dd k0 k1 k2 k3 k5 newId)) (hob : (Value.ref C :: bm).contains (.type "object") = true)
    (h2 : (Value.ref C :: bm).drop 2 = vbm) (ho : ∀ v ∈ (Value.ref C :: bm).take 2, OwnAt h v) (hx : h.get? a = some o) (hc : o.cls = .ref C) (hq : Q (.done (.ret (.ref C))) ⟨h, g, d, t, os⟩) :
    wpAny (model prog w) A (Builtin.«object.__getattribute__» ⟨[.ref a, .str "__class__" tk], []⟩) Q E ⟨h, g, d, t, os⟩ := by
  have hT5 : (⟨h, g, d, t, os⟩ : Shared).TypeIs (.builtin "object.__class__") "getset_descriptor" := F.typeOf_object_class
  have f5 := F.typeOf_object_class
  have f6 := F.slot_gs_get.lookup
  have f7 := F.slot_gs_set.lookup
  repeat (any_goals (first | assumption | (with_reducible refine wpAny_loadPart_at hx ?_; rw [hc]) | with_reducible refine look_class hC h2 ho ?_ | wp_step))
  refine kls_get hC hob hx hc ?_
  repeat (any_goals (first | assumption | wp_step))
theorem kls_by {mN : Str → Option Value} {tk : Tok} {Q : Value → Shared → Prop} (hC : h.get? C = some (excClassObj nm q C N bs bm hdct sn sub ab col dd k0 k1 k2 k3 k5 newId)) (hN : h.Ns N mN) (hmN : ∀ n ∈ quietNames, mN n = none) (T : OwnTailQ h vbm bm) (hob : (Value.ref C :: bm).contains (.type "object") = true)
    (h2 : (Value.ref C :: bm).drop 2 = vbm) (ho : ∀ v ∈ (Value.ref C :: bm).take 2, OwnAt h v) (hx : h.get? a = some o) (hc : o.cls = .ref C) (hq : Q (.ref C) ⟨h, g, d, t, os⟩) :
    wpAny (model prog w) A (getAttrBy (.ref a) (.str "__class__" tk) false) Q E ⟨h, g, d, t, os⟩ := by
  have FB := PySem.F.attrBase_ValueError
  have f3 := FB.ga.bind (.ref a)
  have hx2 : (Value.builtin "BaseException.__getattribute__" == Value.builtin "object.__getattribute__") = false := by decide +kernel
  have hx1 : (onTheHeap (Value.ref C) && Value.builtin "BaseException.__getattribute__" == Value.builtin "object.__getattribute__") = false := by rw [hx2]; rfl
  have hm1 : ("__getattribute__" : Str) ∈ quietNames := .tail _ (.head _)
  have hm2 : ("__getattr__" : Str) ∈ quietNames := .tail _ (.tail _ (.head _))
  repeat (any_goals (first | assumption | (with_reducible refine wpAny_loadPart_at hx ?_; rw [hc]) | with_reducible refine wpAny_typeLookup_tailQ hm1 hC hN hmN T FB.mro FB.ga.lookup ?_ | with_reducible refine wpAny_typeLookup_tailQ hm2 hC hN hmN T FB.mro FB.noGetattr ?_ | wp_step))
  refine codeAny_call_builtin FB.ga.plain F.entry_bexc_ga (wpAny_check_ga_own FB hC T hx hc (kls_entry hC hob h2 ho hx hc ?_))
  repeat (any_goals (first | assumption | wp_step))
theorem kls_attr {mN : Str → Option Value} {Q : Option Value → Shared → Prop} (hC : h.get? C = some (excClassObj nm q C N bs bm hdct sn sub ab col dd k0 k1 k2 k3 k5 newId)) (hN : h.Ns N mN) (hmN : ∀ n ∈ quietNames, mN n = none) (T : OwnTailQ h vbm bm) (hob : (Value.ref C :: bm).contains (.type "object") = true)
    (h2 : (Value.ref C :: bm).drop 2 = vbm) (ho : ∀ v ∈ (Value.ref C :: bm).take 2, OwnAt h v) (hx : h.get? a = some o) (hc : o.cls = .ref C) (hq : Q (some (.ref C)) ⟨h, g, d, t + 1, os⟩) : wpAny (model prog w) A (getAttr? (.ref a) "__class__") Q E ⟨h, g, d, t, os⟩ := by
  unfold getAttr? getAttrBy?
  repeat (any_goals (first | assumption | with_reducible apply kls_by hC hN hmN T hob h2 ho hx hc | wp_step))
variable {nm' q' : Str} {C' N' : Addr} {bs' bm' : List Value} {hdct' : Bool} {sn' : List Str} {sub' : List Value} {ab' : Bool} {col' : Option Bool} {dd' : Option Addr} {l0 l1 l2 l3 l5 : Option Value} {newId' : String}
theorem nested_no {mN : Str → Option Value} {dep : Int} {tk : Tok} {Q : Fin → Shared → Prop} (hC : h.get? C = some (excClassObj nm q C N bs bm hdct sn sub ab col dd k0 k1 k2 k3 k5 newId)) (hC' : h.get? C' = some (excClassObj nm' q' C' N' bs' bm' hdct' sn' sub' ab' col' dd' l0 l1 l2 l3 l5 newId')) (hN : h.Ns N mN) (hmN : ∀ n ∈ quietNames, mN n = none) (T : OwnTailQ h vbm bm) (hob : (Value.ref C :: bm).contains (.type "object") = true)
    (h2 : (Value.ref C :: bm).drop 2 = vbm) (ho : ∀ v ∈ (Value.ref C :: bm).take 2, OwnAt h v) (hno : (Value.ref C :: bm).contains (.ref C') = false) (hx : h.get? a = some o) (hc : o.cls = .ref C) (hq : Q (.done (.ret (.bool false))) ⟨h, g, d, t + 1, os⟩) :
    wpAny (model prog w) A (Builtin.«isinstance.nested» ⟨[.ref a, .ref C', .int dep tk], []⟩) Q E ⟨h, g, d, t, os⟩ := by
  have hne : (Value.ref C == Value.ref C') = false := by
    rw [List.contains_cons, Bool.or_eq_false_iff] at hno
    rw [Bool.eq_false_iff] at hno ⊢
    exact fun e => hno.1 (by rw [beq_iff_eq] at e ⊢; exact e.symm)
  repeat (any_goals (first | assumption | (with_reducible refine wpAny_loadPart_at hx ?_; rw [hc]) | (with_reducible refine wpAny_isSubtype_exc hC ?_; rw [hno]) | with_reducible refine wpAny_loadPart_at hC' ?_ | with_reducible refine wpAny_loadPart_at hC ?_ | rw [hne] | with_reducible apply kls_attr hC hN hmN T hob h2 ho hx hc | wp_step))
end
section
variable {G : Gl} {x : Str} {C : Addr}
theorem ans_no (X : XC G x C) (P : ClsP G.mg G.B x) {t : Str} {T : Addr} (XT : XC G t T) (hno : mroAt G.mg G.B x t false) {e : Addr} : Answers (fun s => (∀ a o, G.B.get? a = some o → s.heap.get? a = some o) ∧ ∃ oe, s.heap.get? e = some oe ∧ oe.cls = .ref C) (.ref e) (.ref T) false := by
  rintro dep tk prog w A R ⟨h, g, d, tt, os⟩ ⟨⟨hB, oe, he, hcls⟩, hq⟩
  obtain ⟨bm, N, nm, qn, bs, hdct, sn, sub, ab, col, dd, k0, k1, k2, k3, k5, mN, hC, hN, hmN, Tl⟩ := X.obj
  obtain ⟨bm', N', nm', qn', bs', hdct', sn', sub', ab', col', dd', l0, l1, l2, l3, l5, mN', hC', _, _, _⟩ := XT.obj
  obtain ⟨C₁, o, cd, h1, h2, h3, h4, h5⟩ := P
  cases X.bound.symm.trans h1
  cases hC.symm.trans h2
  cases h3
  obtain ⟨C₂, T₂, o₂, cd₂, p1, p2, p3, p4, p5⟩ := hno
  cases X.bound.symm.trans p1
  cases XT.bound.symm.trans p2
  cases hC.symm.trans p3
  cases p4
  have hob : (Value.ref C :: bm).contains (.type "object") = true := by rw [List.contains_cons, Tl.tail.hasType (show vbm.contains (.type "object") = true by decide +kernel), Bool.or_true]
  exact nested_no (hB _ _ hC) (hB _ _ hC') (hN.keeps hB) hmN (Tl.keeps hB) hob h4 (fun v hv => (h5 v hv).keeps hB) p5 he hcls (hq _)
theorem tup_nested {P : Shared → Prop} (hP : ∀ s tk, P s → P { s with toks := tk }) {prog : Program} {w : World} {A : Around} {E : Value → Shared → Prop} {e tp : Addr} {oe : Obj} {cs : List Value} {vs : List Bool} {tk : Tok} {s : Shared} {Q : Fin → Shared → Prop}
    (he : s.heap.get? e = some oe) (hcls : oe.cls = .ref C) (hne : C ≠ tp) (htp : s.heap.get? tp = some (tobj cs 0)) (ha : AnswersAll P (.ref e) cs vs) (hs : P s)
    (hq : ∀ tk', Q (.done (.ret (.bool (vs.any id)))) { s with toks := tk' }) : wpAny (model prog w) A (Builtin.«isinstance.nested» ⟨[.ref e, .ref tp, .int 0 tk], []⟩) Q E s := by
  obtain ⟨h, g, d, t, os⟩ := s
  have hT2 : (⟨h, g, d, t, os⟩ : Shared).TypeIs (.ref tp) "tuple" := ⟨_, htp, rfl⟩
  have f1 := F.isi_sub_tuple
  have hne' : (Value.ref C == Value.ref tp) = false := by simp [hne]
  unfold tobj at htp
  repeat (any_goals (first | assumption | (with_reducible refine wpAny_loadPart_at he ?_; rw [hcls]) | rw [hne'] | wp_step))
  refine wpAny_arrayLoop ?_
  simp only [Option.getD_some, List.toList_toArray]
  refine isinstance_items (dep := 0) hP cs vs _ _ ha hs fun tk' => ?_
  cases hv : vs.any id with
  | true =>
    simp only [if_true]
    repeat (any_goals (first | assumption | wp_step))
    exact hv ▸ hq tk'
  | false =>
    simp only [Bool.false_eq_true, if_false]
    repeat (any_goals (first | assumption | wp_step))
    exact hv ▸ hq tk'
end
end Mine

set_option autoImplicit false
set_option linter.all false
set_option genSizeOf false
set_option genInjectivity false
set_option maxRecDepth 100000
namespace Mine
open PySem PyProof.Rows PySem.W
section
variable {G : Gl} {K : Sx} {n x : Str} {C : Addr} {z : V}
theorem es_in3 {t1 t2 t3 : Str} {T1 T2 T3 : Addr} {p q q₁ q₂ r1 r2 r3 : Pos} {kk : Nat} (X : XC G x C) (P : ClsP G.mg G.B x) (X1 : XC G t1 T1) (n1 : mroAt G.mg G.B x t1 false) (X2 : XC G t2 T2) (n2 : mroAt G.mg G.B x t2 false) (X3 : XC G t3 T3) (n3 : mroAt G.mg G.B x t3 false)
    (hn : locOK K n = true := by decide +kernel) (h1 : globOK K "isinstance" = true := by decide +kernel) (g1 : globOK K t1 = true := by decide +kernel) (g2 : globOK K t2 = true := by decide +kernel) (g3 : globOK K t3 = true := by decide +kernel) :
    ES G K n C (.Call (.Name "isinstance" q) [.Name n q₁, .Tuple [.Name t1 r1, .Name t2 r2, .Name t3 r3] kk q₂] [] p) (.bool false) := fun A env e F s E k => by
  refine wpAny_Call_NameR (k.g.glob (.inr (k.g.go.blt 1 _ _ rfl)) h1 ?_)
  rw [back_star p env rfl]
  obtain ⟨m, hm, hme⟩ := k.loc
  obtain ⟨oe, vs, he, hc, _⟩ := k.exc
  have hn := Bool.and_eq_true_iff.mp hn
  refine Calls.callWith_builtin (any_false [_, _] env) (evalArgs_list (all_false [_, _] env) (Calls.spliced_cons (wpAny_Name (wpAny_loadName_local k.g.kind (by show env.scope.names.lookup n = _; rw [k.g.sc]; exact eq_of_beq hn.1) hm hme (Calls.spliced_cons (Tuple_ ?_))) ((Bool.not_eq_true' _).mp hn.2))))
  rw [back_star q₂ env rfl]
  refine Calls.spliced_cons (k.g.glob (.inl X1.bound) g1 (Calls.spliced_cons (k.g.glob (.inl X2.bound) g2 (Calls.spliced_cons (k.g.glob (.inl X3.bound) g3 (Calls.spliced_nil (wpAny_newObj_type (Calls.spliced_nil ?_) (by show 3 ≤ sizeLine; decide))))))))
  have up : ∀ b o, s.heap.get? b = some o → (s.heap.push (tobj [.ref T1, .ref T2, .ref T3] 0)).get? b = some o := fun b o e => Heap.get?_push_of_some _ e
  have hCs : ∃ oC, s.heap.get? C = some oC := by
    obtain ⟨bm, N, nm, qn, bs, hdct, sn, sub, ab, col, dd, k0, k1, k2, k3, k5, mN, hC, _⟩ := X.obj
    exact ⟨_, k.g.in _ _ hC⟩
  have hne : C ≠ s.heap.objs.size := by
    rintro rfl
    obtain ⟨oC, hoC⟩ := hCs
    exact nomatch (size_none s.heap).symm.trans hoC
  show wpAny G.M A (call (.builtin "isinstance") [.ref e, .ref s.heap.objs.size]) (PV F s (.bool false)) E { s with heap := s.heap.push (tobj [.ref T1, .ref T2, .ref T3] 0) }
  refine call_isinstance (S := fun _ R s' => (s'.heap = s.heap.push (tobj [.ref T1, .ref T2, .ref T3] 0)) ∧ ∀ tk, R (.ok (.ret (.bool false))) { s' with toks := tk }) (fun prog w A R s' hs => isinstance_outer (tup_nested (P := fun s => (∀ a o, G.B.get? a = some o → s.heap.get? a = some o) ∧ ∃ oe, s.heap.get? e = some oe ∧ oe.cls = .ref C) (fun _ _ h => h) (oe := oe) (C := C) (cs := [.ref T1, .ref T2, .ref T3]) (vs := [false, false, false]) ?_ hc hne ?_ ⟨ans_no X P X1 n1, ans_no X P X2 n2, ans_no X P X3 n3, trivial⟩ ?_ hs.2) (by intro q; cases q)) ⟨rfl, fun tk => ⟨F, .grow (t := tk) k.g.sub up, rfl⟩⟩
  · rw [hs.1]; exact up _ _ he
  · rw [hs.1]; exact Heap.get?_push_size _ rfl
  · rw [hs.1]; exact ⟨fun a o ea => up _ _ (k.g.in _ _ ea), oe, up _ _ he, hc⟩
theorem suite_if {c : PySem.Expr} {a rest : List Stmt} {p : Pos} (h : ES G K n C c (.bool false)) (h2 : ∀ A env e F s E, SOk G K env n e C F s → wpAny G.M A (execs rest env) (fun f s' => ∃ v, f = .ret v ∧ PV F s z v s') E s) (ht : ∀ env t, isTrue c env t = (do let v ← t; standAt c.pos; holding [v] (truthy v)) := by intros; rfl) :
    ∀ A env e F s E, SOk G K env n e C F s → wpAny G.M A (execs (.If c a [] p :: rest) env) (fun f s' => ∃ v, f = .ret v ∧ PV F s z v s') E s := fun A env e F s E k =>
  wpAny_execs_cons (wpAny_If (by
    rw [ht]
    refine wpAny_bind (wpAny_mono (h A env e F s E k) (fun v s₁ q => ?_) fun _ _ e => e)
    obtain ⟨F₁, S₁, r₁⟩ := q
    cases show v = .bool false from r₁
    refine wpAny_bind (wpAny_standAt (wpAny_holding (wpAny_truthy_bool ?_)))
    exact wpAny_execs_nil (wpAny_mono (h2 A env e F₁ s₁ E (k.step S₁)) (fun f s' q => q.imp fun v q => ⟨q.1, q.2.from S₁⟩) fun _ _ e => e)))
end
end Mine

set_option autoImplicit false
set_option linter.all false
set_option genSizeOf false
set_option genInjectivity false
set_option maxRecDepth 100000
namespace Mine
open PySem PyProof.Rows PySem.W
/-! ## texts: written numbers, joined, cut -/
def dec (i : Int) : List Nat := (Str.ofString (toString i)).cps.toList
def joinL (sep : List Nat) : List (List Nat) → List Nat
  | [] => []
  | x :: r => x ++ r.flatMap (sep ++ ·)
abbrev txt (a : List Nat) : Str := ⟨a.toArray⟩
section
variable {G : Gl} {K : Sx} {A : Around} {env : Env} {ρ : List V} {σ : Ow} {F : Fz} {s : Shared} {E : Value → Shared → Prop} {e l r c : PySem.Expr} {x y z : V} {p q ap : Pos} {b : Bool} {i : Int} {a a' : List Nat} {ts : List (List Nat)} {sep : List Nat}
theorem ev_strI (h1 : Ev G K ρ σ e (.int i)) (hi : i.natAbs < 10 ^ 70) (hs : notStar e = true := by rfl) (hg : globOK K "str" = true := by decide +kernel) : Ev G K ρ σ (.Call (.Name "str" q) [e] [] p) (.str (dec i)) :=
  ev_ct 10 rfl hg (by rw [List.all_cons, hs]; rfl) (evl_cons h1 evl_nil) fun A env F s E vs k r => by
    obtain ⟨v, rfl, t, rfl⟩ := rel1 r
    refine P.str_of_int ?_ (pv_tok k.rm _ ⟨_, rfl⟩)
    by_cases h0 : i.natAbs = 0
    · rw [h0]; decide
    · exact (Nat.log2_lt h0).mpr (Nat.lt_of_lt_of_le hi (Nat.le_trans (by decide +kernel : 10 ^ 70 ≤ 2 ^ 250) (Nat.pow_le_pow_right (by decide) (by decide))))
theorem ev_intT {n : Int} (h1 : Ev G K ρ σ e (.str a)) (hn : PySem.intText? (txt a) = some n) (hl : a.length ≤ 640) (hs : notStar e = true := by rfl) (hg : globOK K "int" = true := by decide +kernel) : Ev G K ρ σ (.Call (.Name "int" q) [e] [] p) (.int n) :=
  ev_ct 4 rfl hg (by rw [List.all_cons, hs]; rfl) (evl_cons h1 evl_nil) fun A env F s E vs k r => by
    obtain ⟨v, rfl, t, rfl⟩ := rel1 r
    exact KIN.call_text hn hl (pv_tok k.rm _ ⟨_, rfl⟩)
theorem strs_are : ∀ {ts : List (List Nat)} {vs : List Value}, RelL F (ts.map .str) vs → StrsAre vs (ts.map txt)
  | [], _, rfl => .nil
  | _ :: _, _, ⟨_, _, rfl, ⟨t, rfl⟩, r⟩ => .cons _ t (strs_are r)
theorem glue_eq (sep : List Nat) : ∀ (r : List (List Nat)) (acc : List Nat), (r.map txt).foldl (fun acc p => acc ++ (txt sep).cps ++ p.cps) acc.toArray = (acc ++ r.flatMap (sep ++ ·)).toArray
  | [], acc => by simp
  | x :: r, acc => by
    rw [List.map_cons, List.foldl_cons, List.append_toArray, List.append_toArray, glue_eq sep r, List.flatMap_cons, List.append_assoc, List.append_assoc, List.append_assoc]
theorem join_eq (sep : List Nat) (ts : List (List Nat)) : Txt.join (txt sep) (ts.map txt) = txt (joinL sep ts) := by
  cases ts with
  | nil => rfl
  | cons x r => exact congrArg Str.mk (glue_eq sep r x)
theorem sum_le {n : Nat} : ∀ {ts : List (List Nat)}, (∀ t ∈ ts, t.length ≤ n) → ((ts.map txt).map (·.length)).sum ≤ ts.length * n
  | [], _ => by simp
  | t :: ts, h => by
    have := sum_le fun t ht => h t (List.mem_cons_of_mem _ ht)
    have h0 := h t (List.mem_cons_self ..)
    rw [List.map_cons, List.map_cons, List.sum_cons, List.length_cons, Nat.succ_mul, length_str]
    exact Nat.le_trans (Nat.add_le_add h0 this) (Nat.le_of_eq (Nat.add_comm ..))
theorem join_ok {D : Addr} {vs : List Value} {t : Tok} (R : Rm G A F s) (hl : s.heap.IsList D vs.toArray) (r : RelL F (ts.map .str) vs) (hn : ts.length ≤ 1000) (ht : ∀ t ∈ ts, t.length ≤ 1000) (h1 : sep.length ≤ 1) : wpAny G.M A (call (.builtin "str.join") [.str (txt sep) t, .ref D]) (PV F s (.str (joinL sep ts))) E s := by
  refine join_list hl (strs_are r) ?_ fun t' k => ?_
  · have h2 := sum_le ht
    have h3 : ts.length * 1000 ≤ 1000 * 1000 := Nat.mul_le_mul_right _ hn
    have h4 : (ts.map txt).length * (txt sep).length ≤ 1000 * 1 := Nat.mul_le_mul (by rw [List.length_map]; exact hn) h1
    (exact a388 h4 h2 hn)
  · rw [join_eq]; exact pv_tok R k ⟨_, rfl⟩
theorem ev_joinl (h1 : Ev G K ρ σ e (.str sep)) (h2 : Ev G K ρ σ l (.lst (ts.map .str))) (hn : ts.length ≤ 1000) (ht : ∀ t ∈ ts, t.length ≤ 1000) (h3 : sep.length ≤ 1) (hn' : ∀ n env t, attributeBase e n env t = t := by intros; rfl) (hl : (ap.endLine == p.line) = true := by rfl) (hs : notStar l = true := by rfl) : Ev G K ρ σ (.Call (.Attribute e "join" ap) [l] [] p) (.str (joinL sep ts)) := fun A env F s E k =>
  meth_ok (id := "str.join") h1 hn' hl (by rw [List.all_cons, hs]; rfl) (Nat.lt_of_sub_eq_succ rfl) (evl_cons h2 evl_nil) k (by rintro F s _ pl Q k ⟨t, rfl⟩ h; exact GM.join h)
    (by rintro _ _ F₁ s₁ S₁ k₁ ⟨t, rfl⟩ ⟨_, _, rfl, rl, rfl⟩
        obtain ⟨D, vs, rfl, hD, _, rl⟩ := lst_list k₁.rm rl
        exact wp_from S₁ (join_ok k₁.rm hD rl hn ht h3))
theorem ev_joino {c : Addr} (h1 : Ev G K ρ σ e (.str sep)) (h2 : Ev G K ρ σ l (.ref c)) (hc : σ c = some (ts.map .str)) (hn : ts.length ≤ 1000) (ht : ∀ t ∈ ts, t.length ≤ 1000) (h3 : sep.length ≤ 1) (hn' : ∀ n env t, attributeBase e n env t = t := by intros; rfl) (hl : (ap.endLine == p.line) = true := by rfl) (hs : notStar l = true := by rfl) : Ev G K ρ σ (.Call (.Attribute e "join" ap) [l] [] p) (.str (joinL sep ts)) := fun A env F s E k =>
  meth_ok (id := "str.join") h1 hn' hl (by rw [List.all_cons, hs]; rfl) (Nat.lt_of_sub_eq_succ rfl) (evl_cons h2 evl_nil) k (by rintro F s _ pl Q k ⟨t, rfl⟩ h; exact GM.join h)
    (by rintro _ _ F₁ s₁ S₁ k₁ ⟨t, rfl⟩ ⟨v, _, rfl, rl, rfl⟩
        cases show v = .ref c from rl
        obtain ⟨vs, hD, rl⟩ := own_list k₁ hc
        exact wp_from S₁ (join_ok k₁.rm hD rl hn ht h3))
/-! ## cut at a sign -/
theorem joinL_cons (x y : List Nat) (r : List (List Nat)) : joinL sep (x :: y :: r) = x ++ (sep ++ joinL sep (y :: r)) := by
  show x ++ (y :: r).flatMap (sep ++ ·) = x ++ (sep ++ (y ++ r.flatMap (sep ++ ·)))
  rw [List.flatMap_cons, List.append_assoc]
theorem cut_one {c : Nat} : ∀ {x x' u u' : List Nat}, c ∉ x → c ∉ x' → x ++ c :: u = x' ++ c :: u' → x = x' ∧ u = u'
  | [], [], _, _, _, _, h => ⟨rfl, (List.cons.inj h).2⟩
  | [], y :: _, _, _, _, h2, h => absurd (List.mem_cons.mpr (.inl (List.cons.inj h).1)) h2
  | y :: _, [], _, _, h1, _, h => absurd (List.mem_cons.mpr (.inl (List.cons.inj h).1.symm)) h1
  | y :: x, z :: x', u, u', h1, h2, h => by
    obtain ⟨e1, e2⟩ := List.cons.inj h
    obtain ⟨e3, e4⟩ := cut_one (fun m => h1 (List.mem_cons_of_mem _ m)) (fun m => h2 (List.mem_cons_of_mem _ m)) e2
    exact ⟨by rw [e1, e3], e4⟩
theorem cut_uniq {c : Nat} : ∀ {xs ys : List (List Nat)}, xs ≠ [] → ys ≠ [] → (∀ x ∈ xs, c ∉ x) → (∀ y ∈ ys, c ∉ y) → joinL [c] xs = joinL [c] ys → xs = ys
  | [], _, h, _, _, _, _ => absurd rfl h
  | _, [], _, h, _, _, _ => absurd rfl h
  | [x], [y], _, _, _, _, h => by simpa [joinL] using h
  | [x], y :: y' :: r, _, _, h1, _, h => by
    rw [joinL_cons] at h
    have : joinL [c] [x] = x := by simp [joinL]
    rw [this] at h
    exact absurd (by rw [h]; simp) (h1 x (by simp))
  | x :: x' :: r, [y], _, _, _, h2, h => by
    rw [joinL_cons] at h
    have : joinL [c] [y] = y := by simp [joinL]
    rw [this] at h
    exact absurd (by rw [← h]; simp) (h2 y (by simp))
  | x :: x' :: r, y :: y' :: r', _, _, h1, h2, h => by
    rw [joinL_cons, joinL_cons] at h
    obtain ⟨e1, e2⟩ := cut_one (h1 x (by simp)) (h2 y (by simp)) h
    rw [e1, cut_uniq (by simp) (by simp) (fun z hz => h1 z (List.mem_cons_of_mem _ hz)) (fun z hz => h2 z (List.mem_cons_of_mem _ hz)) e2]
theorem strjoin_eq (c : Nat) : ∀ (P : List Str), (Str.join ⟨#[c]⟩ P).cps.toList = joinL [c] (P.map (·.cps.toList))
  | [] => rfl
  | [x] => by show x.cps.toList = _; simp [joinL]
  | x :: y :: r => by
    rw [List.map_cons, List.map_cons, joinL_cons]
    show (x.cps ++ #[c] ++ (Str.join ⟨#[c]⟩ (y :: r)).cps).toList = _
    rw [Array.toList_append, Array.toList_append, strjoin_eq c (y :: r), List.append_assoc]; rfl
theorem split_eq {c : Nat} (hts : ts ≠ []) (hf : ∀ t ∈ ts, c ∉ t) : (Txt.split (txt (joinL [c] ts)) ⟨#[c]⟩).map (·.cps.toList) = ts := by
  have h1 := congrArg (fun s : Str => s.cps.toList) (StrLaws.join_split (txt (joinL [c] ts)) ⟨#[c]⟩)
  rw [strjoin_eq] at h1
  refine cut_uniq (c := c) (fun e => ?_) hts (fun x hx => ?_) hf h1
  · have := split_pos (txt (joinL [c] ts)) ⟨#[c]⟩
    rw [List.map_eq_nil_iff.mp e] at this
    exact absurd this (by decide)
  · obtain ⟨p, hp, rfl⟩ := List.mem_map.mp hx
    exact StrLaws.split_free _ c p hp
theorem rel_vals (F : Fz) : ∀ (l : List (Str × Tok)), RelL F ((l.map fun p => p.1.cps.toList).map .str) (strValues l)
  | [] => rfl
  | (x, t) :: l => ⟨_, _, rfl, ⟨t, rfl⟩, rel_vals F l⟩
theorem ev_split {c : Nat} (h1 : Ev G K ρ σ e (.str (joinL [c] ts))) (h2 : Ev G K ρ σ l (.str [c])) (hts : ts ≠ []) (hf : ∀ t ∈ ts, c ∉ t) (hz : (joinL [c] ts).length ≤ 10000000) (hn' : ∀ n env t, attributeBase e n env t = t := by intros; rfl) (hl : (ap.endLine == p.line) = true := by rfl) (hs : notStar l = true := by rfl) :
    Ev G K ρ σ (.Call (.Attribute e "split" ap) [l] [] p) (.lst (ts.map .str)) := fun A env F s E k =>
  meth_ok (id := "str.split") h1 hn' hl (by rw [List.all_cons, hs]; rfl) (Nat.lt_of_sub_eq_succ rfl) (evl_cons h2 evl_nil) k (by rintro F s _ pl Q k ⟨t, rfl⟩ h; exact GM.split h)
    (by
      rintro _ _ F₁ s₁ S₁ k₁ ⟨t, rfl⟩ ⟨_, _, rfl, ⟨u, rfl⟩, rfl⟩
      refine wp_from S₁ ?_
      have hsp := split_eq hts hf
      have fin : ∀ (l : List (Str × Tok)) (tk : Nat), l.map (·.1) = Txt.split (txt (joinL [c] ts)) ⟨#[c]⟩ → PV F₁ s₁ (.lst (ts.map .str)) (.ref s₁.heap.objs.size) { s₁ with heap := s₁.heap.push { cls := .type "list", data := .seq (strValues l).toArray }, toks := tk } := fun l tk hl => by
        have e : (l.map fun p => p.1.cps.toList) = ts := by rw [← hsp, ← hl, List.map_map]; rfl
        have := rel_vals F₁ l
        rw [e] at this
        exact pv_push k₁.rm (lobj (strValues l) 0) tk ⟨_, _, rfl, ⟨0, Fz.add_self⟩, this.mono (add_up k₁.rm)⟩ rfl
      have hle := split_le (txt (joinL [c] ts)) ⟨#[c]⟩
      have hxl : (txt (joinL [c] ts)).length ≤ 10000000 := hz
      have hsl : (10000000 : Nat) + 2 ≤ sizeLine := by decide
      show wpAny G.M A (call (.builtin "str.split") [.str (txt (joinL [c] ts)) t, .str (⟨#[c]⟩ : Str) u]) _ _ _
      generalize txt (joinL [c] ts) = X at *
      cases g1 : (decide (X.length < (⟨#[c]⟩ : Str).length) || decide (Builtin.Str.strKind X < Builtin.Str.strKind ⟨#[c]⟩))
      · cases g2 : (Builtin.Str.occurrences X ⟨#[c]⟩ 0 X.length (X.length + 1)).isEmpty
        · have he : Txt.split X ⟨#[c]⟩ = Builtin.Str.partsBetween X (Builtin.Str.occurrences X ⟨#[c]⟩ 0 X.length (X.length + 1)) (⟨#[c]⟩ : Str).length := (if_neg (ne_true_of_eq_false g1)).trans (if_neg (ne_true_of_eq_false g2))
          refine call_meets PySem.F.slot_str_split (typeIs_str _ _ _) PySem.F.entry_str_split (PySem.F.args_str_split_2 _ _) (meets_str_split_sep X ⟨#[c]⟩ t u g1 rfl g2 (by (exact a425 hsl hxl)) (by rw [← he]; (exact a426 hsl hle hxl))) ?_
          show wants _ _ _ { s₁ with toks := _, heap := s₁.heap.push { cls := .type "list", data := .seq (strsFrom s₁.toks (Builtin.Str.partsBetween X (Builtin.Str.occurrences X ⟨#[c]⟩ 0 X.length (X.length + 1)) (⟨#[c]⟩ : Str).length)).toArray } }
          rw [strsFrom_eq]
          exact fin _ _ ((numbered_texts _ _).trans he.symm)
        · exact call_meets PySem.F.slot_str_split (typeIs_str _ _ _) PySem.F.entry_str_split (PySem.F.args_str_split_2 _ _) (meets_str_split_not_found X ⟨#[c]⟩ t u g1 rfl g2) (fin [(X, t)] s₁.toks ((if_neg (ne_true_of_eq_false g1)).trans (if_pos g2)).symm)
      · exact call_meets PySem.F.slot_str_split (typeIs_str _ _ _) PySem.F.entry_str_split (PySem.F.args_str_split_2 _ _) (meets_str_split_cannot_occur X ⟨#[c]⟩ t u g1) (fin [(X, t)] s₁.toks (if_pos g1).symm))
/-- row.partition(' ') -/
def Part (row w b n : List Nat) : Prop := (32 ∉ row ∧ w = row ∧ b = [] ∧ n = []) ∨ (row = w ++ 32 :: n ∧ 32 ∉ w ∧ b = [32])
theorem at_first {w n : List Nat} (hw : 32 ∉ w) {i : Nat} (h : (w ++ 32 :: n)[i]? = some 32) (hn : ∀ k, k < i → (w ++ 32 :: n)[k]? ≠ some 32) : i = w.length := by
  rcases Nat.lt_trichotomy i w.length with h1 | h1 | h1
  · rw [List.getElem?_append_left h1] at h
    exact absurd (List.mem_of_getElem? h) hw
  · exact h1
  · exact absurd (by rw [List.getElem?_append_right (Nat.le_refl _), Nat.sub_self]; rfl) (hn _ h1)
theorem ev_part {w bl n : List Nat} (h1 : Ev G K ρ σ e (.str a)) (h2 : Ev G K ρ σ l (.str [32])) (hp : Part a w bl n) (hz : a.length ≤ 1000000) (hn' : ∀ n env t, attributeBase e n env t = t := by intros; rfl) (hl : (ap.endLine == p.line) = true := by rfl) (hs : notStar l = true := by rfl) :
    Ev G K ρ σ (.Call (.Attribute e "partition" ap) [l] [] p) (.tup [.str w, .str bl, .str n]) := fun A env F s E k =>
  meth_ok (id := "str.partition") h1 hn' hl (by rw [List.all_cons, hs]; rfl) (Nat.lt_of_sub_eq_succ rfl) (evl_cons h2 evl_nil) k (by rintro F s _ pl Q k ⟨t, rfl⟩ h; exact GM.partition h)
    (by
      rintro _ _ F₁ s₁ S₁ k₁ ⟨t, rfl⟩ ⟨_, _, rfl, ⟨u, rfl⟩, rfl⟩
      refine wp_from S₁ (call_meets PySem.F.slot_str_partition (typeIs_str _ _ _) PySem.F.entry_str_partition (PySem.F.args_str_partition_2 _ _) (meets_str_partition (txt a) (txt [32]) t u rfl (Nat.le_trans hz (by decide))) ?_)
      have fin : ∀ (x1 x2 x3 : Str) (t1 t2 t3 : Tok) (tk : Nat), x1 = txt w → x2 = txt bl → x3 = txt n → PV F₁ s₁ (.tup [.str w, .str bl, .str n]) (.ref s₁.heap.objs.size) { s₁ with heap := s₁.heap.push { cls := .type "tuple", data := .seq [.str x1 t1, .str x2 t2, .str x3 t3].toArray }, toks := tk } := by
        rintro x1 x2 x3 t1 t2 t3 tk rfl rfl rfl
        exact pv_push k₁.rm (tobj [.str (txt w) t1, .str (txt bl) t2, .str (txt n) t3] 0) tk ⟨_, _, rfl, ⟨0, Fz.add_self⟩, _, _, rfl, ⟨_, rfl⟩, _, _, rfl, ⟨_, rfl⟩, _, _, rfl, ⟨_, rfl⟩, rfl⟩ rfl
      rcases StrLaws.occ_head (txt a) (txt [32]) 1 (Nat.le_refl 1) with ⟨h0, hn⟩ | ⟨i, r, h0, hi, hn⟩
      · rw [h0]
        have hfree : 32 ∉ a := fun hm => by
          obtain ⟨j, hj⟩ := List.getElem?_of_mem hm
          exact hn j ((StrLaws.subAt_one (txt a) 32 j).mpr hj)
        rcases hp with ⟨_, rfl, rfl, rfl⟩ | ⟨rfl, _, _⟩
        · exact fin _ _ _ _ _ _ _ rfl rfl rfl
        · exact absurd (by simp) hfree
      · rw [h0]
        have hm := (StrLaws.subAt_one (txt a) 32 i).mp hi
        rcases hp with ⟨hf, _⟩ | ⟨rfl, hw, rfl⟩
        · exact absurd (List.mem_of_getElem? hm) hf
        · have ei := at_first hw hm fun k hk e => hn k hk ((StrLaws.subAt_one (txt (w ++ 32 :: n)) 32 k).mpr e)
          subst ei
          refine fin _ _ _ _ _ _ _ ?_ rfl ?_
          · refine congrArg Str.mk (Array.toList_inj.mp ?_)
            have := StrLaws.strSub_toList (txt (w ++ 32 :: n)) 0 w.length
            exact this.trans (by simp)
          · refine congrArg Str.mk (Array.toList_inj.mp ?_)
            have := StrLaws.strSub_toList (txt (w ++ 32 :: n)) (w.length + 1) (txt (w ++ 32 :: n)).length
            refine this.trans ?_
            rw [length_str]
            simp
            exact List.take_of_length_le (by (exact a437 )))
/-! ## a sign in a text; a sign many times; one or the other; a text of the module -/
theorem cm_ins {c : Nat} : Cm G .In (.str [c]) (.str a) (decide (c ∈ a)) := by
  rintro A F s E _ _ R _ ⟨_, rfl⟩ ⟨_, rfl⟩ h
  exact P.in_str (by rw [StrLaws.found_one]; exact h)
theorem rep_eq (c : Nat) : ∀ (n : Nat) (acc : List Nat), (List.replicate n (#[c] : Array Nat)).foldl (· ++ ·) acc.toArray = (acc ++ List.replicate n c).toArray
  | 0, acc => by simp
  | n + 1, acc => by
    rw [List.replicate_succ, List.foldl_cons, show acc.toArray ++ #[c] = (acc ++ [c]).toArray by simp, rep_eq c n, List.append_assoc]
    rfl
theorem ev_rep {c n : Nat} (h1 : Ev G K ρ σ l (.str [c])) (h2 : Ev G K ρ σ r (.int n)) (hn : 2 ≤ n) (hn2 : n ≤ 1000) : Ev G K ρ σ (.BinOp l .Mult r p) (.str (List.replicate n c)) :=
  ev_bin h1 h2 <| by
    rintro A F s E _ _ R ⟨_, rfl⟩ ⟨_, rfl⟩
    have hl1 : (⟨[c].toArray⟩ : Str).length = 1 := rfl
    have e1 : (((n : Int) == 1) || ((⟨[c].toArray⟩ : Str).length == 0)) = false := by
      rw [hl1, Bool.or_eq_false_iff]
      exact ⟨by rw [beq_eq_false_iff_ne]; (exact a389 hn), rfl⟩
    refine P.mul_str ?_ (fun _ _ => ?_) (fun _ _ => ?_) ?_
    · rw [decide_eq_false (by (exact a392 hn)), decide_eq_false (by (exact a393 hn2))]; rfl
    · rw [hl1]
      have : (1 : Int) ≤ (2 ^ 63 - 1) / (n : Int) := (Int.le_ediv_iff_mul_le (by (exact a395 hn))).mpr (by (exact a396 hn2))
      (exact a397 this)
    · rw [hl1]; unfold Builtin.Str.tooLong; rw [Int.toNat_natCast]; rw [decide_eq_false]; show ¬ sizeLine < _; have : (1000 : Nat) ≤ sizeLine := by decide
      (exact a399 this hn2)
    · rw [if_neg (by (exact a400 hn)), if_neg (by rw [e1]; decide), Int.toNat_natCast]
      have := rep_eq c n []
      rw [show ([] : List Nat).toArray = #[] from rfl, List.nil_append] at this
      show (Made.str ⟨(List.replicate n (#[c] : Array Nat)).foldl (· ++ ·) #[]⟩).post _ _
      rw [this]
      exact made_str R (by rw [List.length_replicate]; exact Nat.le_trans hn2 (by decide))
theorem ev_ifx (h1 : Tr G K ρ σ c b) (ht : b = true → Ev G K ρ σ l x) (hf : b = false → Ev G K ρ σ r x) : Ev G K ρ σ (.IfExp c l r p) x := fun A env F s E k =>
  wpAny_IfExp (h1.bind k fun F₁ s₁ S₁ k₁ => by
    cases b
    · rw [if_neg Bool.false_ne_true]; exact wp_from S₁ (hf rfl A env F₁ s₁ E k₁)
    · rw [if_pos rfl]; exact wp_from S₁ (ht rfl A env F₁ s₁ E k₁))
theorem ev_gstr {n : Str} (h : ∃ t, G.mg n = some (.str (txt a) t)) (hg : globOK K n = true := by decide +kernel) : Ev G K ρ σ (.Name n p) (.str a) := fun A env F s E k => h.elim fun t h => name_global k (.inl h) hg (pv_same k ⟨t, rfl⟩)
end
end Mine

set_option autoImplicit false
set_option linter.all false
set_option genSizeOf false
set_option genInjectivity false
set_option maxRecDepth 100000
namespace Mine
open PySem PyProof.Rows PySem.W
section
variable {G : Gl} {K : Sx} {A : Around} {env : Env} {ρ : List V} {σ : Ow} {F : Fz} {s : Shared} {E : Value → Shared → Prop} {Q : KS} {e l r c : PySem.Expr} {x y z : V} {p q q' ap : Pos} {ss : List Stmt} {xs ys : List V}
/-! ## slices of lists -/
theorem pick_slice (vs : List Value) (lo hi : Option Int) : slicePick vs.toArray lo hi none = (slice vs lo hi).toArray := by
  have e : (sliceRange (sliceBounds lo hi none vs.length).1 (sliceBounds lo hi none vs.length).2.1 (sliceBounds lo hi none vs.length).2.2) = (List.range (clampI hi vs.length vs.length - clampI lo 0 vs.length)).map (clampI lo 0 vs.length + ·) := by
    rw [← sliceRange_one]
    unfold sliceBounds
    simp only [Option.getD_none, show (1 : Int) > 0 by decide, if_true]
    congr 1
    · cases lo with
      | none => rfl
      | some i => simp only [clampI]; split <;> (first | exact a376 ‹_› | exact a377 ‹_›)
    · cases hi with
      | none => rfl
      | some i => simp only [clampI]; split <;> (first | exact a376 ‹_› | exact a377 ‹_›)
  unfold slicePick
  rw [List.size_toArray, e, pick_run]
  unfold slice
  rw [List.drop_take]
theorem RelL.slice {lo hi : Option Int} {vs : List Value} (rl : RelL F xs vs) : RelL F (Mine.slice xs lo hi) (Mine.slice vs lo hi) := by
  unfold Mine.slice
  rw [rl.length]
  exact (rl.take _).drop _
theorem ev_slc_gen {lo hi : Option PySem.Expr} {m n : Option Int} (h1 : Ev G K ρ σ l x) (h2 : EvO G K ρ σ lo m) (h3 : EvO G K ρ σ hi n) (hl : xs.length ≤ sizeLine) (hx : ∀ A env F s v, EOk G K A env ρ σ F s → Rel F x v → ∃ b vs, v = .ref b ∧ s.heap.IsList b (List.toArray vs) ∧ RelL F xs vs) : Ev G K ρ σ (.Subscript l (.Slice lo hi none q) p) (.lst (slice xs m n)) :=
  fun A env F₀ s E k => Subscript_ (h1.bind k fun v F₁ s₁ S₁ r₁ k₁ => wpAny_Slice (h2 A env F₁ s₁ E _ k₁ fun vl F₂ s₂ S₂ pl k₂ => h3 A env F₂ s₂ E _ k₂ fun vu F₃ s₃ S₃ pu k₃ => wpAny_evalPart_none (by
    have S₄ : St N0 F₃ s₃ F₃ { s₃ with heap := s₃.heap.push { cls := .type "slice", data := .fields #[vl, vu, .none] } } := St.grow k₃.rm.sub fun _ _ e => Heap.get?_push_of_some _ e
    have k₄ := k₃.step S₄
    obtain ⟨b, vs, rfl, hb, rl⟩ := hx A env F₃ _ v k₄ ((r₁.mono S₂.up).mono S₃.up)
    refine tail_any (ops := [.ref s₃.heap.objs.size, .ref b]) hb.typeIs slot_list_getitem.lookup ?_ rfl
    refine wp_from (((S₁.trans S₂).trans S₃).trans S₄) (wpAny_getItem_list_slice hb ⟨_, Heap.get?_push_size _ rfl, rfl, rfl⟩ pl pu .none (by simp) ?_ (by rw [List.size_toArray, rl.length]; exact hl))
    rw [pick_slice]
    exact pv_push k₄.rm (lobj (slice vs m n) 0) s₃.toks ⟨_, _, rfl, ⟨0, Fz.add_self⟩, rl.slice.mono (add_up k₄.rm)⟩ rfl)))
theorem ev_slcl {lo hi : Option PySem.Expr} {m n : Option Int} (h1 : Ev G K ρ σ l (.lst xs)) (h2 : EvO G K ρ σ lo m) (h3 : EvO G K ρ σ hi n) (hl : xs.length ≤ sizeLine) : Ev G K ρ σ (.Subscript l (.Slice lo hi none q) p) (.lst (slice xs m n)) :=
  ev_slc_gen h1 h2 h3 hl fun A env F s v k r => (lst_list k.rm r).imp fun _ q => q.imp fun _ q => ⟨q.1, q.2.1, q.2.2.2⟩
theorem ev_slco {b : Addr} {lo hi : Option PySem.Expr} {m n : Option Int} (h1 : Ev G K ρ σ l (.ref b)) (hb : σ b = some xs) (h2 : EvO G K ρ σ lo m) (h3 : EvO G K ρ σ hi n) (hl : xs.length ≤ sizeLine) : Ev G K ρ σ (.Subscript l (.Slice lo hi none q) p) (.lst (slice xs m n)) :=
  ev_slc_gen h1 h2 h3 hl fun A env F s v k r => (own_list k hb).elim fun vs q => ⟨b, vs, r, q⟩
theorem ev_idxo {b : Addr} {i : Int} (h1 : Ev G K ρ σ l (.ref b)) (h2 : Ev G K ρ σ r (.int i)) (hb : σ b = some xs) (h0 : 0 ≤ i) (hi : i < 2 ^ 62) (hz : xs[i.toNat]? = some z) (hn : notSlice r = true := by rfl) : Ev G K ρ σ (.Subscript l r p) z :=
  ev_idx slot_list_getitem.lookup h1 h2 hn fun A env F s E v t k rv => by
    cases show v = .ref b from rv
    obtain ⟨vs, hl, rl⟩ := own_list k hb
    exact ⟨hl.typeIs, (rl.get hz).elim fun v' q => wpAny_getItem_list hl h0 (Int.lt_trans hi (by decide)) (by simpa using q.1) (pv_same k q.2)⟩
/-! ## an item of one's own list is set -/
theorem RelL.set {v : Value} : ∀ {xs : List V} {vs : List Value} {i : Nat}, RelL F xs vs → Rel F y v → RelL F (xs.set i y) (vs.set i v)
  | [], _, _, rfl, _ => rfl
  | _ :: _, _, 0, ⟨_, ws, rfl, _, rl⟩, r => ⟨v, ws, rfl, r, rl⟩
  | _ :: _, _, i + 1, ⟨u, ws, rfl, ru, rl⟩, r => ⟨u, ws.set i v, rfl, ru, RelL.set rl r⟩
theorem set_plain {b : Addr} {vs : List Value} {n : Nat} {k : Int} {t : Tok} {v : Value} {R : Unit → Shared → Prop} (hl : s.heap.get? b = some (lobj vs n)) (h0 : 0 ≤ k) (hj : k < vs.length) (h62 : k < 2 ^ 63)
    (hR : ∀ h' n', h'.get? b = some (lobj (vs.set k.toNat v) n') → Heap.SameBut b s.heap h' → R () { s with heap := h' }) : wpAny G.M A (setItem (.ref b) (.int k t) v) R E s := by
  have hL : s.heap.IsList b vs.toArray := ⟨_, hl, rfl, n, rfl⟩
  unfold setItem
  try with_reducible refine wpAny_holding ?_
  first | refine wpAny_bind (wpAny_pure ?_) | skip
  refine wpAny_bind (wpAny_sequenceKey hL.typeIs (by decide) ?_)
  refine wpAny_bind (wpAny_callSpecial?_slot (name := Str.ofString "__setitem__") hL.typeIs slot_list_setitem (wpAny_call_entry slot_list_setitem hL.typeIs entry_list_setitem ?_ (args_list_setitem _ _ _)))
  show wpAny _ _ (Builtin.List.listSubscript? (.int k t) >>= _) _ _ s
  refine wpAny_bind (wpAny_listSubscript_int (fitsIndex_of h0 h62) ?_)
  clear h62
  obtain ⟨j, rfl⟩ := Int.eq_ofNat_of_zero_le h0
  have hj : j < vs.length := by (exact a405 hj)
  show wpAny _ _ ((seqItemAt b j >>= fun r => pure (r.map (j, ·))) >>= _) _ _ s
  refine wpAny_bind (wpAny_bind (wpAny_seqItemAt hl rfl (wpAny_pure ?_)))
  rw [show vs.toArray[j]? = some vs[j] by simp [hj]]
  show wpAny _ _ (setSeqItemAt b j v >>= _) _ _ s
  have e : ∃ m, Obj.mapSeq (·.setIfInBounds j v) (lobj vs n) = lobj (vs.set j v) m := ⟨_, by simp only [Obj.mapSeq, lobj, List.setIfInBounds_toArray]; rfl⟩
  obtain ⟨m, e⟩ := e
  have hfin : (s.heap.update b (Obj.mapSeq (·.setIfInBounds j v))).get? b = some (lobj (vs.set j v) m) := (Heap.get?_update_self _ hl (by rw [e]; rfl)).trans (congrArg some e)
  refine wpAny_bind (wpAny_setSeqItemAt hl rfl ?_)
  first
    | exact wpAny_bind (wpAny_pure (wpAny_pure ⟨.none, rfl, wpAny_pure (hR _ _ hfin (Heap.SameBut.update ..))⟩))
    | exact wpAny_pure ⟨.none, rfl, wpAny_pure (hR _ _ hfin (Heap.SameBut.update ..))⟩
theorem ws_set {b : Addr} {j : Nat} (h1 : Ev G K ρ σ l (.ref b)) (hb : σ b = some xs) (h2 : Ev G K ρ σ r (.int j)) (hj : j < xs.length) (h62 : xs.length ≤ sizeLine) (h3 : Ev G K ρ σ e y) (h : WS G K ss ρ (σ.set b (xs.set j y)) Q)
    (hsw : ∀ env, env.scope = K.sc → swapsWith e (some (.Subscript l r q)) p.line env = pure false := by intros; rfl) : WS G K (.Assign [.Subscript l r q] e p :: ss) ρ σ Q :=
  ws_cons fun A env F s E k => wpAny_Assign_Subscript (h3.bind k.e fun v F₁ s₁ S₁ r₁ k₁ => h1.bind k₁ fun o F₂ s₂ S₂ r₂ k₂ => h2.bind k₂ fun w F₃ s₃ S₃ r₃ k₃ => by
    cases show o = .ref b from r₂
    obtain ⟨t, rfl⟩ := r₃
    obtain ⟨hF, vs, n, hv, rl⟩ := k₃.own b xs hb
    have S := (S₁.trans S₂).trans S₃
    have hjv : (j : Int) < vs.length := by rw [rl.length]; exact Int.ofNat_lt.mpr hj
    refine set_plain hv (Int.natCast_nonneg j) hjv (Int.lt_of_lt_of_le (Int.ofNat_lt.mpr (Nat.lt_of_lt_of_le hj h62)) (by decide)) fun h' n' hp hs => ?_
    have kk := (k.step S).put (t := s₃.toks) hb hs.extBut hp (rl.set ((r₁.mono S₂.up).mono S₃.up))
    exact ⟨.next, ρ, _, F₃, trivial, kk.1, S.lk.trans kk.2, h⟩) (hsw env k.e.sc)
/-! ## three names as a target -/
theorem asg_tup3 (i j m : Nat) {n₁ n₂ n₃ : Str} {kk : Nat} {q₁ q₂ q₃ : Pos} (hx : nameOK K i n₁ = true := by decide +kernel) (hy : nameOK K j n₂ = true := by decide +kernel) (hz : nameOK K m n₃ = true := by decide +kernel) : Asg G K (.Tuple [.Name n₁ q₁, .Name n₂ q₂, .Name n₃ q₃] kk p) (.tup [x, y, z]) ρ (((ρ.set i x).set j y).set m z) := by
  rintro A env σ F s E _ R k ⟨a, _, rfl, ⟨n', e⟩, v, _, rfl, r1, w, _, rfl, r2, u, _, rfl, r3, rfl⟩ h
  refine wpAny_assign_Tuple k.e.rm.handled ⟨_, k.e.rm.sub _ _ e, rfl, n', rfl⟩ rfl rfl fun h₁ hs => ?_
  have hg : ∀ b o, s.heap.get? b = some o → h₁.get? b = some o := fun b o e => hs b o (Nat.ne_of_lt (Heap.lt_size e)) e
  have S : St N0 F s F { s with heap := h₁, toks := s.toks } := .grow k.e.rm.sub hg
  refine wpAny_assignInOrder_more (wpAny_assign_Name (store_ok (k.step S) hx r1 fun h₂ t₂ k₂ L₂ hk₂ => ?_))
  refine wpAny_assignInOrder_more (wpAny_assign_Name (store_ok k₂ hy r2 fun h₃ t₃ k₃ L₃ hk₃ => ?_))
  refine wpAny_assignInOrder_more (wpAny_assign_Name (store_ok k₃ hz r3 fun h₄ t₄ k₄ L₄ hk₄ => ?_))
  exact wpAny_pure (h h₄ t₄ k₄ (((S.lk.trans L₂).trans L₃).trans L₄) fun b o hb e => hk₄ b o hb (hk₃ b o hb (hk₂ b o hb (hg b o e))))
theorem ws_asgT {ρ' : List V} {ts : List PySem.Expr} {kk : Nat} (h1 : Ev G K ρ σ e x) (ha : Asg G K (.Tuple ts kk q) x ρ ρ') (h2 : WS G K ss ρ' σ Q) (hs : ∀ env, env.scope = K.sc → swapsWithSole [.Tuple ts kk q] e p.line env = pure false := by intros; rfl) (hw : ∀ env, swappedStores [.Tuple ts kk q] e env = pure none := by intros; rfl) : WS G K (.Assign [.Tuple ts kk q] e p :: ss) ρ σ Q :=
  ws_cons fun A env F s E k => Assign_Tuple (h1.bind k.e fun v F₁ s₁ S r k₁ => ha A env σ F₁ s₁ E v _ (k.step S) r fun h' t k₂ L _ => ⟨.next, ρ', σ, F₁, trivial, k₂, S.lk.trans L, h2⟩) (hs env k.e.sc) (hw env)
/-! ## a list of one's own from a comprehension -/
theorem FOk.ownedAt {a : Addr} {vs : List Value} {n : Nat} {F' : Fz} {s' : Shared} {zs : List V} (k : FOk G K A env ρ σ F s) (S : St N0 F s F' s') (hn : s.heap.get? a = none) (hF : F' a = none) (ho : s'.heap.get? a = some (lobj vs n)) (ru : RelL F' zs vs) : σ a = none ∧ FOk G K A env ρ (σ.set a zs) F' s' ∧ Lk env σ F s (σ.set a zs) F' s' := by
  have k' := k.step S
  have hσ : σ a = none := by
    cases q : σ a with
    | none => rfl
    | some xs => exact (k.e.own _ xs q).2.elim fun _ q => q.elim fun _ q => nomatch hn.symm.trans q.1
  refine ⟨hσ, ⟨⟨k'.e.rm, k'.e.sc, k'.e.kind, k'.e.globals, k'.e.builtins, fun b xs q => ?_, k'.e.loc⟩, k'.top, k'.apart, k'.nodup, k'.own⟩, S.any, fun b xs q => ?_⟩
  · by_cases h : b = a
    · subst h; cases (Ow.set_self ..).symm.trans q; exact ⟨hF, vs, n, ho, ru⟩
    · exact k'.e.own b xs ((Ow.set_ne _ _ h).symm.trans q)
  · by_cases h : b = a
    · exact .inr (h ▸ hn)
    · exact .inl ⟨xs, (Ow.set_ne _ _ h).symm.trans q⟩
theorem ws_asg_compO (i : Nat) {n : Str} {p' py : Pos} {T : Type} {Fv : T → V} {ts : List T} {caps : List Nat} {v : Str} {scope : Scope} {e' it₀ : PySem.Expr} {ifs : List PySem.Expr} (f : T → Option V) (hit : Ev G K ρ σ it₀ x) (hi : itemsOf x = some (ts.map Fv)) (hl : ts.length ≤ sizeLine) (ht : ∀ t ∈ ts, Turn G (K.comp caps [v] scope) (ρc ρ caps [Fv t]) σ ifs e' (f t)) (h : ∀ a, σ a = none → WS G K ss (ρ.set i (.ref a)) (σ.set a (ts.filterMap f)) Q) (hx : nameOK K i n = true := by decide +kernel) (hchk : compChk K caps [v] scope = true := by decide +kernel) (hsw : swapChk K n q.line p.line scope = true := by decide +kernel) (hsf : ∀ env x, foldedSetIterable it₀ env x = pure x := by intros; rfl) : WS G K (.Assign [.Name n q] (.ListComp e' [⟨.Name v py, it₀, ifs, 0⟩] scope p) p' :: ss) ρ σ Q :=
  ws_cons fun A env F s E k => by
    rw [exec_Assign_Name_used _ _ _ _ (swap_yes hsw k.e.sc k.e.kind)]
    refine wpAny_bind (wpAny_standAt (wpAny_bind ?_))
    show wpAny _ A (do let _ ← comprehension (.ListComp e' [⟨.Name v py, it₀, ifs, 0⟩] scope p) scope env _ (newList []) false (eval it₀ env) (some (assign (.Name n q) env))) _ _ s
    refine wpAny_bind (wpAny_mono (comp_core (Qp := fun _ s' => PS G K A env σ F s (Kc G K ss Q) .next s') f (fun t => .one v py _) hchk hit hi hl hsf ht k.e fun D C F' s' mC vs nn S hD hC hDC hFD hFC hl' rl hn => ?_) (fun _ s' hq => wpAny_pure (wpAny_pure hq)) fun _ _ e => e)
    obtain ⟨hσ, k₂, L₂⟩ := k.ownedAt S hD hFD hl' rl
    have hnl : ∀ b o, s.heap.get? b = some o → b ≠ C := fun b o e => by rintro rfl; exact nomatch hC.symm.trans e
    have hCown : ¬ Own env C := by
      rintro (e | ⟨z, hz⟩)
      · obtain ⟨mm, hm, _⟩ := k.e.loc.vars
        obtain ⟨o, ho⟩ := Ns_obj hm
        exact hnl _ _ ho e.symm
      · obtain ⟨⟨ov, oc, h1, _⟩, _⟩ := k.own z C hz
        exact hnl _ _ h1 rfl
    show wpAny _ A (assign (.Name n q) env (.ref D)) _ _ s'
    refine wpAny_assign_Name (store_ok (x := .ref D) k₂ hx rfl fun h' t k₃ L₃ hk₃ => ⟨mC, ns_keep hn fun o e => hk₃ C o hCown e, fun h'' hs'' => ?_⟩)
    refine ⟨.next, _, _, _, trivial, k₃.other (t := t) hFC hs''.extBut hCown (k.e.rm.nofr fun o es n e => nomatch hC.symm.trans e) fun a zs q => (k₃.e.own a zs q).imp id fun h2 => h2.imp fun vs h2 => h2.imp fun n h2 => ⟨hs''.extBut _ _ ?_ h2.1, h2.2⟩, (L₂.trans L₃).priv hFC hC hs''.extBut, h D hσ⟩
    rintro rfl
    by_cases hq : a = D
    · exact hDC hq.symm
    · exact (k.e.own _ zs ((Ow.set_ne _ _ hq).symm.trans q)).2.elim fun _ q => q.elim fun _ q => nomatch hC.symm.trans q.1
end
end Mine

set_option autoImplicit false
set_option linter.all false
set_option genSizeOf false
set_option genInjectivity false
set_option maxRecDepth 100000
namespace Mine
open PySem PyProof.Rows PySem.W
section
variable {G : Gl} {K : Sx} {A : Around} {env : Env} {ρ : List V} {σ : Ow} {F : Fz} {s : Shared} {E : Value → Shared → Prop} {Q : KS} {e l m r : PySem.Expr} {es : List PySem.Expr} {x y z w : V} {p q q' pc : Pos} {ss : List Stmt} {xs ys : List V} {b c : Bool} {f g : Str}
theorem tr_chain {o₁ o₂ : CmpOp} (h1 : Ev G K ρ σ l x) (h2 : Ev G K ρ σ m y) (h3 : Ev G K ρ σ r z) (c1 : Cm G o₁ x y b) (c2 : Cm G o₂ y z c) (hm : lastMarks [o₁, o₂] [m, r] = false := by with_unfolding_all rfl) : Tr G K ρ σ (.Compare l [o₁, o₂] [m, r] p) (b && c) := fun A env F s E k =>
  isTrue_chain (h1.bind k fun v F₁ s₁ S₁ r₁ k₁ => test_link (h2.bind k₁ fun w F₂ s₂ S₂ r₂ k₂ => c1 A F₂ s₂ E v w _ k₂.rm (r₁.mono S₂.up) r₂ (wpAny_truthy_bool (by
    cases b
    · rw [if_neg Bool.false_ne_true]; exact ⟨F₂, S₁.trans S₂, rfl⟩
    · rw [if_pos rfl]
      refine test_last (h3.bind k₂ fun u F₃ s₃ S₃ r₃ k₃ => ?_)
      exact c2 A F₃ s₃ E w u _ k₃.rm (r₂.mono S₃.up) r₃ (wpAny_truthy_bool ⟨F₃, (S₁.trans S₂).trans S₃, rfl⟩))))) hm
/-! ## a list of one's own is handed to a function that gives a tree -/
mutual
inductive Tn : V → Prop
  | none : Tn .none
  | int (i : Int) : Tn (.int i)
  | str (a : List Nat) : Tn (.str a)
  | tup {xs : List V} : TnL xs → Tn (.tup xs)
inductive TnL : List V → Prop
  | nil : TnL []
  | cons {x : V} {xs : List V} : Tn x → TnL xs → TnL (x :: xs)
end
mutual
theorem Tn.rel {F F' : Fz} (h : ∀ a vs n, F a = some (tobj vs n) → F' a = some (tobj vs n)) : ∀ {x : V} {v : Value}, Tn x → Rel F x v → Rel F' x v
  | _, _, .none, r => r
  | _, _, .int _, r => r
  | _, _, .str _, r => r
  | _, _, .tup q, r => r.imp fun _ r => r.imp fun _ r => ⟨r.1, r.2.1.imp fun _ => h _ _ _, TnL.rel h q r.2.2⟩
theorem TnL.rel {F F' : Fz} (h : ∀ a vs n, F a = some (tobj vs n) → F' a = some (tobj vs n)) : ∀ {xs : List V} {vs : List Value}, TnL xs → RelL F xs vs → RelL F' xs vs
  | _, _, .nil, r => r
  | _, _, .cons a b, r => r.imp fun _ r => r.imp fun _ r => ⟨r.1, Tn.rel h a r.2.1, TnL.rel h b r.2.2⟩
end
theorem ev_callT {c : Addr} (h : Pure G f [.lst ys] z) (hz : Tn z) (h1 : Ev G K ρ σ e (.ref c)) (hc : σ c = some ys) (hs : notStar e = true := by rfl) (hg : globOK K f = true := by decide +kernel) : Ev G K ρ σ (.Call (.Name f q) [e] [] p) z := fun A env F s E k => by
  obtain ⟨o, fd, hf, ho, hfd⟩ := h.is
  refine wpAny_Call_NameR (name_global k (.inl hf) hg ?_)
  rw [back_star p env (by rw [List.all_cons, hs]; rfl)]
  refine Calls.callWith_function (evalArgs_list (all_false [e] env) ((evl_cons h1 evl_nil).bind k fun vs F₁ s₁ S₁ r₁ k₁ => ⟨⟨k₁.rm.in _ _ ho, hfd⟩, ?_⟩))
  obtain ⟨v, rfl, rv⟩ := rel1 r₁
  cases show v = .ref c from rv
  obtain ⟨hF, us, n, hu, ru⟩ := k₁.own c ys hc
  have up : ∀ a o, F₁ a = some o → F₁.add c (lobj us n) a = some o := fun a o e => (if_neg (by rintro rfl; exact nomatch hF.symm.trans e)).trans e
  have R₂ : Rm G A (F₁.add c (lobj us n)) s₁ := ⟨k₁.rm.go, fun a o e => up a o (k₁.rm.base a o e), fun a o e => by
    by_cases h : a = c
    · subst h; cases Fz.add_self.symm.trans e; exact hu
    · exact k₁.rm.sub a o ((if_neg h).symm.trans e), k₁.rm.depth, k₁.rm.units, k₁.rm.handled, k₁.rm.frs fun L _ hL t => ⟨(if_neg (by rintro rfl; obtain ⟨o, es, m, e, hd⟩ := t; cases hu.symm.trans e; cases hd)).trans hL, t⟩⟩
  refine wpAny_mono (h.run A _ s₁ E _ R₂ ⟨_, _, rfl, ⟨c, us, rfl, ⟨n, Fz.add_self⟩, ru.mono up⟩, rfl⟩) (fun v s₂ q => q.casesOn fun F₂ S₂ r₂ => ?_) fun _ _ e => e
  have hc2 : F₂ c = some (lobj us n) := S₂.up _ _ Fz.add_self
  let F₃ : Fz := fun a => if a = c then none else F₂ a
  refine ⟨F₃, S₁.trans ⟨fun a o e => (if_neg (by rintro rfl; exact nomatch hF.symm.trans e)).trans (S₂.up a o (up a o e)), fun a o e => ?_, S₂.keepO, S₂.live, fun a o e => ?_, S₂.rest⟩, Tn.rel (fun a vs m e => (if_neg (by rintro rfl; have := congrArg Obj.cls (Option.some.inj (hc2.symm.trans e)); exact absurd this (by show ¬ (Value.type "list" = Value.type "tuple"); decide))).trans e) hz r₂⟩
  · by_cases h : a = c
    · exact nomatch (if_pos h).symm.trans e
    · exact S₂.sub a o ((if_neg h).symm.trans e)
  · by_cases h : a = c
    · exact nomatch (if_pos h).symm.trans e
    · exact (S₂.new a o ((if_neg h).symm.trans e)).imp (fun e => (if_neg h).symm.trans e) id
/-! ## f(g(..)), where g tells only a property -/
theorem ev_callP {P : V → Prop} (h : PureP G g xs P) (ha : EvL G K ρ σ es xs) (hf : ∃ o fd, G.mg f = some (.ref (G.fn f)) ∧ G.B.get? (G.fn f) = some o ∧ o.data = .func fd) (h2 : ∀ z, P z → Pure G f [z] w) (hs : es.all notStar = true := by rfl) (hg : globOK K g = true := by decide +kernel) (hg' : globOK K f = true := by decide +kernel) : Ev G K ρ σ (.Call (.Name f q) [.Call (.Name g q') es [] pc] [] p) w := fun A env F s E k => by
  obtain ⟨o, fd, hf, ho, hfd⟩ := hf
  refine wpAny_Call_NameR (name_global k (.inl hf) hg' ?_)
  rw [back_star p env rfl]
  refine Calls.callWith_function (o := o) (fd := fd) (evalArgs_list (all_false [_] env) (Calls.spliced_cons ?_))
  obtain ⟨o', fd', hf', ho', hfd'⟩ := h.is
  refine wpAny_Call_NameR (name_global k (.inl hf') hg ?_)
  rw [back_star pc env hs]
  refine Calls.callWith_function (evalArgs_list (all_false es env) (ha.bind k fun vs F₁ s₁ S₁ r₁ k₁ => ⟨⟨k₁.rm.in _ _ ho', hfd'⟩, wpAny_mono (h.run A F₁ s₁ E vs k₁.rm r₁) (fun v s₂ q => ?_) fun _ _ e => e⟩))
  obtain ⟨z, hz, F₂, S₂, r₂⟩ := q
  have k₂ := k₁.step S₂
  exact Calls.spliced_nil ⟨⟨k₂.rm.in _ _ ho, hfd⟩, wp_from (S₁.trans S₂) ((h2 z hz).run A F₂ s₂ E [v] k₂.rm (.one r₂))⟩
end
end Mine

set_option autoImplicit false
set_option linter.all false
set_option maxRecDepth 100000
namespace Mine
open PySem PySem.W PyProof.Rows
abbrev PP : Program := PySem.Challenge.pw_uf020025_11
def stA (k : Nat) : Stmt := PP.main.body.getD k (.Pass default)
def fB : Stmt → List Stmt
  | .FunctionDef _ _ b _ _ _ _ _ _ _ => b
  | _ => []
def fS : Stmt → Scope
  | .FunctionDef _ _ _ _ _ _ s _ _ _ => s
  | _ => default
def cB : Stmt → List Stmt
  | .ClassDef _ _ _ b _ _ _ _ _ _ _ => b
  | _ => []
def K_is_sign : Sx := ⟨fS (stA 14), ["sign", "place"]⟩
abbrev B_is_sign : List Stmt := fB (stA 14)
abbrev A_is_sign (G : Gl) : Prop := FnAt G.B G.mg "is_sign" K_is_sign 1 B_is_sign
def K_is_name : Sx := ⟨fS (stA 15), ["thing"]⟩
abbrev B_is_name : List Stmt := fB (stA 15)
abbrev A_is_name (G : Gl) : Prop := FnAt G.B G.mg "is_name" K_is_name 1 B_is_name
def K_common : Sx := ⟨fS (stA 16), ["one", "other", "size"]⟩
abbrev B_common : List Stmt := fB (stA 16)
abbrev A_common (G : Gl) : Prop := FnAt G.B G.mg "common" K_common 2 B_common
def K_gather : Sx := ⟨fS (stA 18), ["tree", "text", "pairs", "sign", "below"]⟩
abbrev B_gather : List Stmt := fB (stA 18)
abbrev A_gather (G : Gl) : Prop := FnAt G.B G.mg "gather" K_gather 3 B_gather
def K_names : Sx := ⟨fS (stA 19), ["tree", "pairs"]⟩
abbrev B_names : List Stmt := fB (stA 19)
abbrev A_names (G : Gl) : Prop := FnAt G.B G.mg "names" K_names 1 B_names
def K_grouped : Sx := ⟨fS (stA 20), ["pairs", "size", "groups", "name", "number", "sign"]⟩
abbrev B_grouped : List Stmt := fB (stA 20)
abbrev A_grouped (G : Gl) : Prop := FnAt G.B G.mg "grouped" K_grouped 2 B_grouped
def K_built : Sx := ⟨fS (stA 21), ["pairs", "shared", "branches", "sign", "group"]⟩
abbrev B_built : List Stmt := fB (stA 21)
abbrev A_built (G : Gl) : Prop := FnAt G.B G.mg "built" K_built 1 B_built
def K_written : Sx := ⟨fS (stA 25), ["tree"]⟩
abbrev B_written : List Stmt := fB (stA 25)
abbrev A_written (G : Gl) : Prop := FnAt G.B G.mg "written" K_written 1 B_written
def K_number_of : Sx := ⟨fS (stA 26), ["word", "figures", "number"]⟩
abbrev B_number_of : List Stmt := fB (stA 26)
abbrev A_number_of (G : Gl) : Prop := FnAt G.B G.mg "number_of" K_number_of 1 B_number_of
def K_read : Sx := ⟨fS (stA 27), ["text", "rows", "pairs", "row", "word", "blank", "name", "number"]⟩
abbrev B_read : List Stmt := fB (stA 27)
abbrev A_read (G : Gl) : Prop := FnAt G.B G.mg "read" K_read 1 B_read
def K_law_cell_at : Sx := ⟨fS (stA 29), ["_law_script", "_law_k"]⟩
abbrev B_law_cell_at : List Stmt := fB (stA 29)
abbrev A_law_cell_at (G : Gl) : Prop := FnAt G.B G.mg "_law_cell_at" K_law_cell_at 2 B_law_cell_at
def K_law_whole : Sx := ⟨fS (stA 30), ["_law_told"]⟩
abbrev B_law_whole : List Stmt := fB (stA 30)
abbrev A_law_whole (G : Gl) : Prop := FnAt G.B G.mg "_law_whole" K_law_whole 1 B_law_whole
def K_law_sign_by : Sx := ⟨fS (stA 31), ["_law_cell", "_law_some"]⟩
abbrev B_law_sign_by : List Stmt := fB (stA 31)
abbrev A_law_sign_by (G : Gl) : Prop := FnAt G.B G.mg "_law_sign_by" K_law_sign_by 1 B_law_sign_by
def K_law_word_by : Sx := ⟨fS (stA 32), ["_law_cell", "_law_size", "_law_made", "_law_number", "_law_k"]⟩
abbrev B_law_word_by : List Stmt := fB (stA 32)
abbrev A_law_word_by (G : Gl) : Prop := FnAt G.B G.mg "_law_word_by" K_law_word_by 2 B_law_word_by
def K_law_number_by : Sx := ⟨fS (stA 33), ["_law_cell", "_law_size", "_law_number", "_law_mixed", "_law_k"]⟩
abbrev B_law_number_by : List Stmt := fB (stA 33)
abbrev A_law_number_by (G : Gl) : Prop := FnAt G.B G.mg "_law_number_by" K_law_number_by 1 B_law_number_by
def K_law_rows_by : Sx := ⟨fS (stA 34), ["_law_script", "_law_first", "_law_count", "_law_cell", "_law_way", "_law_more", "_law_start", "_law_pairs", "_law_wide", "_law_rows", "_law_k", "_law_size", "_law_word", "_law_old"]⟩
abbrev B_law_rows_by : List Stmt := fB (stA 34)
abbrev A_law_rows_by (G : Gl) : Prop := FnAt G.B G.mg "_law_rows_by" K_law_rows_by 3 B_law_rows_by
def K_law_count_by : Sx := ⟨fS (stA 35), ["_law_cell"]⟩
abbrev B_law_count_by : List Stmt := fB (stA 35)
abbrev A_law_count_by (G : Gl) : Prop := FnAt G.B G.mg "_law_count_by" K_law_count_by 1 B_law_count_by
def K_law_tree : Sx := ⟨fS (stA 36), ["_law_rows", "_law_first", "_law_last", "_law_size", "_law_branches", "_law_at", "_law_sign", "_law_same"]⟩
abbrev B_law_tree : List Stmt := fB (stA 36)
abbrev A_law_tree (G : Gl) : Prop := FnAt G.B G.mg "_law_tree" K_law_tree 1 B_law_tree
def K_law_alike : Sx := ⟨fS (stA 37), ["_law_told", "_law_due", "_law_k"]⟩
abbrev B_law_alike : List Stmt := fB (stA 37)
abbrev A_law_alike (G : Gl) : Prop := FnAt G.B G.mg "_law_alike" K_law_alike 2 B_law_alike
def K_law_refused : Sx := ⟨fS (stA 38), ["_law_text", "e"]⟩
abbrev B_law_refused : List Stmt := fB (stA 38)
abbrev A_law_refused (G : Gl) : Prop := FnAt G.B G.mg "_law_refused" K_law_refused 1 B_law_refused
def K_law_no_figure : Sx := ⟨fS (stA 39), ["_law_cell", "_law_sign"]⟩
abbrev B_law_no_figure : List Stmt := fB (stA 39)
abbrev A_law_no_figure (G : Gl) : Prop := FnAt G.B G.mg "_law_no_figure" K_law_no_figure 1 B_law_no_figure
def K_law_spoilt : Sx := ⟨fS (stA 40), ["_law_rows", "_law_way", "_law_at", "_law_cell", "_law_lines", "_law_name", "_law_heads", "_law_head", "_law_place", "_law_sign", "_law_text"]⟩
abbrev B_law_spoilt : List Stmt := fB (stA 40)
abbrev A_law_spoilt (G : Gl) : Prop := FnAt G.B G.mg "_law_spoilt" K_law_spoilt 4 B_law_spoilt
def K_law : Sx := ⟨fS (stA 41), ["_law_script", "_law_rows", "_law_text", "_law_told", "_law_at", "_law_cell"]⟩
abbrev B_law : List Stmt := fB (stA 41)
abbrev A_law (G : Gl) : Prop := FnAt G.B G.mg "law" K_law 1 B_law
end Mine

set_option autoImplicit false
namespace Mine
/-! ## plain: beginnings -/
def lcp : List Nat → List Nat → Nat
  | a :: as, b :: bs => if a = b then lcp as bs + 1 else 0
  | _, _ => 0
theorem lcp_le : ∀ (a b : List Nat), lcp a b ≤ a.length ∧ lcp a b ≤ b.length
  | a :: as, b :: bs => by
    unfold lcp; have := lcp_le as bs; split <;> simp <;> (exact this)
  | [], _ => by simp [lcp]
  | _ :: _, [] => by simp [lcp]
theorem lcp_comm : ∀ (a b : List Nat), lcp a b = lcp b a
  | a :: as, b :: bs => by
    unfold lcp
    by_cases h : a = b
    · rw [if_pos h, if_pos h.symm, lcp_comm as bs]
    · rw [if_neg h, if_neg (Ne.symm h)]
  | [], [] => rfl
  | [], _ :: _ => rfl
  | _ :: _, [] => rfl
theorem lcp_take : ∀ (a b : List Nat), a.take (lcp a b) = b.take (lcp a b)
  | a :: as, b :: bs => by
    unfold lcp; split
    · rename_i h; subst h; simp [lcp_take as bs]
    · simp
  | [], _ => by simp [lcp]
  | _ :: _, [] => by simp [lcp]
theorem lcp_step : ∀ (a b : List Nat) (k : Nat), k ≤ lcp a b → ((k < a.length ∧ k < b.length ∧ a.getD k 0 = b.getD k 0) ↔ k < lcp a b)
  | a :: as, b :: bs, 0, _ => by
    unfold lcp; by_cases h : a = b <;> simp [h]
  | a :: as, b :: bs, k + 1, h => by
    unfold lcp at h ⊢
    split at h
    · rename_i e
      rw [if_pos e]
      have := lcp_step as bs k (by (exact a355 h))
      simp only [List.length_cons, List.getD_cons_succ]
      (exact a357 this h)
    · (exact (a358 h).elim)
  | [], _, k, h => by simp [lcp]
  | _ :: _, [], k, h => by simp [lcp]
theorem lcp_prefix : ∀ (a b : List Nat), b.isPrefixOf a = true ↔ lcp a b = b.length
  | a :: as, b :: bs => by
    unfold lcp
    simp only [List.isPrefixOf, Bool.and_eq_true, beq_iff_eq, List.length_cons]
    have := lcp_prefix as bs
    split
    · rename_i e; rw [this]; simp [e]
    · rename_i e; constructor
      · rintro ⟨rfl, _⟩; exact absurd rfl e
      · intro h; (exact (a352 h).elim)
  | _, [] => by simp [lcp]
  | [], _ :: _ => by simp [lcp, List.isPrefixOf]
theorem prefix_take (a : List Nat) (n : Nat) : (a.take n).isPrefixOf a = true := by
  rw [List.isPrefixOf_iff_prefix]; exact List.take_prefix _ _
end Mine

set_option autoImplicit false
namespace Mine

/-! ## plain: rows sorted by name, and their groups -/
abbrev Rw := List Nat × Int
def Srt (rs : List Rw) : Prop := rs.Pairwise fun a b => a.1 < b.1
theorem lt_append {p a b : List Nat} : p ++ a < p ++ b ↔ a < b := by
  induction p with
  | nil => simp
  | cons x p ih => simp [ih]
theorem lt_tri (a b : List Nat) : a < b ∨ a = b ∨ b < a := by
  by_cases h1 : a < b
  · exact .inl h1
  · by_cases h2 : b < a
    · exact .inr (.inr h2)
    · exact .inr (.inl (List.le_antisymm (List.not_lt.mp h2) (List.not_lt.mp h1)))
/-- a text between two texts shares what they share -/
theorem lcp_mid : ∀ {a b c : List Nat}, ¬ b < a → ¬ c < b → b.take (lcp a c) = a.take (lcp a c)
  | x :: as, b, z :: cs, h1, h2 => by
    unfold lcp
    split
    · rename_i e; subst e
      cases b with
      | nil => exact absurd (List.nil_lt_cons _ _) h1
      | cons y bs =>
        rw [List.cons_lt_cons_iff] at h1 h2
        have : y = x := by (first | lia | omega)
        subst this
        simp only [List.take_succ_cons, List.cons.injEq, true_and]
        exact lcp_mid (fun q => h1 (.inr ⟨rfl, q⟩)) (fun q => h2 (.inr ⟨rfl, q⟩))
    · simp
  | [], _, _, _, _ => by simp [lcp]
  | _ :: _, _, [], _, _ => by simp [lcp]
def sg (k : Nat) (r : Rw) : List Nat := (r.1.drop k).take 1
def cutR (k : Nat) (r : Rw) : Rw := (r.1.drop (k + 1), r.2)
theorem parts (k : Nat) (a : List Nat) : a.take k ++ ((a.drop k).take 1 ++ a.drop (k + 1)) = a := by
  have : a.drop (k + 1) = (a.drop k).drop 1 := by rw [List.drop_drop]
  rw [this, List.take_append_drop, List.take_append_drop]
def Gr := List Nat × List Rw
def addG (k : Nat) (gs : List (List Nat × List Rw)) (r : Rw) : List (List Nat × List Rw) :=
  match gs.getLast? with
  | some g => if g.1 = sg k r then gs.dropLast ++ [(g.1, g.2 ++ [r])] else gs ++ [(sg k r, [r])]
  | none => [(sg k r, [r])]
def groups (k : Nat) (rs : List Rw) : List (List Nat × List Rw) := rs.foldl (addG k) []
theorem groups_snoc (k : Nat) (rs : List Rw) (r : Rw) : groups k (rs ++ [r]) = addG k (groups k rs) r := by simp [groups]
theorem last_cases {α : Type} (l : List α) : l = [] ∨ ∃ i x, l = i ++ [x] := by
  rcases List.eq_nil_or_concat l with h | ⟨i, x, h⟩
  · exact .inl h
  · exact .inr ⟨i, x, by simpa using h⟩
theorem snoc_ind {α : Type} {P : List α → Prop} (h0 : P []) (hs : ∀ l x, P l → P (l ++ [x])) (l : List α) : P l := by
  have : ∀ n (l : List α), l.length = n → P l := by
    intro n
    induction n with
    | zero => intro l h; rw [List.length_eq_zero_iff] at h; subst h; exact h0
    | succ n ih =>
      intro l h
      rcases last_cases l with rfl | ⟨i, x, rfl⟩
      · simp at h
      · exact hs i x (ih i (by simpa using h))
  exact this _ l rfl
theorem addG_nil (k : Nat) (r : Rw) : addG k [] r = [(sg k r, [r])] := rfl
theorem addG_same (k : Nat) (gs : List (List Nat × List Rw)) (s : List Nat) (g : List Rw) (r : Rw) (h : s = sg k r) : addG k (gs ++ [(s, g)]) r = gs ++ [(s, g ++ [r])] := by
  unfold addG; simp [h]
theorem addG_new (k : Nat) (gs : List (List Nat × List Rw)) (s : List Nat) (g : List Rw) (r : Rw) (h : s ≠ sg k r) : addG k (gs ++ [(s, g)]) r = gs ++ [(s, g)] ++ [(sg k r, [r])] := by
  unfold addG; simp [h]
theorem groups_flat (k : Nat) (rs : List Rw) : (groups k rs).flatMap (·.2) = rs := by
  induction rs using snoc_ind with
  | h0 => rfl
  | hs rs r ih =>
    rw [groups_snoc]
    rcases last_cases (groups k rs) with h | ⟨gs, ⟨s, g⟩, h⟩
    · rw [h, addG_nil]; rw [h] at ih; simp at ih; subst ih; simp
    · rw [h] at ih ⊢
      by_cases e : s = sg k r
      · rw [addG_same k gs s g r e]; simp at ih ⊢; rw [← List.append_assoc, ih]
      · rw [addG_new k gs s g r e, List.flatMap_append, ih]; simp
theorem groups_mem (k : Nat) (rs : List Rw) : ∀ g ∈ groups k rs, g.2 ≠ [] ∧ ∀ r ∈ g.2, sg k r = g.1 := by
  induction rs using snoc_ind with
  | h0 => intro g hg; simp [groups] at hg
  | hs rs r ih =>
    rw [groups_snoc]
    rcases last_cases (groups k rs) with h | ⟨gs, ⟨s, g⟩, h⟩
    · rw [h, addG_nil]
      intro q hq
      rw [List.mem_singleton] at hq; subst hq
      exact ⟨by simp, fun x hx => by rw [List.mem_singleton] at hx; subst hx; rfl⟩
    · rw [h] at ih ⊢
      by_cases e : s = sg k r
      · rw [addG_same k gs s g r e]
        intro q hq
        rcases List.mem_append.mp hq with hq | hq
        · exact ih q (List.mem_append_left _ hq)
        · simp at hq; subst hq
          refine ⟨by simp, fun x hx => ?_⟩
          rcases List.mem_append.mp hx with hx | hx
          · exact (ih (s, g) (by simp)).2 x hx
          · simp at hx; subst hx; exact e.symm
      · rw [addG_new k gs s g r e]
        intro q hq
        rcases List.mem_append.mp hq with hq | hq
        · exact ih q hq
        · rw [List.mem_singleton] at hq; subst hq
          exact ⟨by simp, fun x hx => by rw [List.mem_singleton] at hx; subst hx; rfl⟩
/-- rows that begin alike, sorted -/
structure Pre (k : Nat) (rs : List Rw) : Prop where
  srt : Srt rs
  pre : ∀ a ∈ rs, ∀ b ∈ rs, a.1.take k = b.1.take k
theorem lt_parts {k : Nat} {a b : List Nat} (h : a.take k = b.take k) (l : a < b) : a.drop k < b.drop k := by
  rw [← List.take_append_drop k a, ← List.take_append_drop k b, h, lt_append] at l; exact l
theorem sg_le {k : Nat} {a b : Rw} (h : a.1.take k = b.1.take k) (l : a.1 < b.1) : sg k a = sg k b ∨ sg k a < sg k b := by
  have := lt_parts h l
  unfold sg
  cases ha : a.1.drop k with
  | nil =>
    cases hb : b.1.drop k with
    | nil => exact .inl rfl
    | cons y bs => right; simp
  | cons x as =>
    cases hb : b.1.drop k with
    | nil => rw [ha, hb] at this; exact absurd this (List.not_lt_nil _)
    | cons y bs =>
      rw [ha, hb, List.cons_lt_cons_iff] at this
      rcases this with q | ⟨q, _⟩
      · right; simp [List.cons_lt_cons_iff, q]
      · left; simp [q]
theorem mem_flat {k : Nat} {rs : List Rw} {g : List Nat × List Rw} (hg : g ∈ groups k rs) {r : Rw} (hr : r ∈ g.2) : r ∈ rs := by
  rw [← groups_flat k rs]; exact List.mem_flatMap.mpr ⟨g, hg, hr⟩
theorem groups_sorted {k : Nat} {rs : List Rw} (P : Pre k rs) : (groups k rs).Pairwise fun a b => a.1 < b.1 := by
  induction rs using snoc_ind with
  | h0 => simp [groups]
  | hs rs r ih =>
    have P' : Pre k rs := ⟨(List.pairwise_append.mp P.srt).1, fun a ha b hb => P.pre a (List.mem_append_left _ ha) b (List.mem_append_left _ hb)⟩
    have ih := ih P'
    have hm := groups_mem k rs
    rw [groups_snoc]
    rcases last_cases (groups k rs) with h | ⟨gs, ⟨s, g⟩, h⟩
    · rw [h, addG_nil]; simp
    · have key : ∀ q ∈ groups k rs, q.1 = sg k r ∨ q.1 < sg k r := by
        intro q hq
        obtain ⟨hne, hs⟩ := hm q hq
        obtain ⟨x, xs, hx⟩ := List.exists_cons_of_ne_nil hne
        have hxm : x ∈ q.2 := by rw [hx]; simp
        have := hs x hxm
        rw [← this]
        have hxr := mem_flat hq hxm
        exact sg_le (P.pre x (List.mem_append_left _ hxr) r (by simp)) ((List.pairwise_append.mp P.srt).2.2 x hxr r (by simp))
      rw [h] at ih key ⊢
      by_cases e : s = sg k r
      · rw [addG_same k gs s g r e]
        rw [List.pairwise_append] at ih ⊢
        exact ⟨ih.1, by simp, fun a ha b hb => by simp at hb; subst hb; exact ih.2.2 a ha (s, g) (by simp)⟩
      · rw [addG_new k gs s g r e]
        rw [List.pairwise_append]
        refine ⟨ih, by simp, fun a ha b hb => ?_⟩
        simp at hb; subst hb
        have hsl : s < sg k r := (key (s, g) (by simp)).resolve_left e
        rcases List.mem_append.mp ha with ha | ha
        · exact List.lt_trans ((List.pairwise_append.mp ih).2.2 a ha (s, g) (by simp)) hsl
        · simp at ha; subst ha; exact hsl
theorem filter_group {k : Nat} {rs : List Rw} (P : Pre k rs) {g : List Nat × List Rw} (hg : g ∈ groups k rs) : rs.filter (fun r => decide (sg k r = g.1)) = g.2 := by
  have hm := groups_mem k rs
  have hs := groups_sorted P
  have hf := groups_flat k rs
  generalize groups k rs = gs at hg hm hs hf
  subst hf
  induction gs with
  | nil => cases hg
  | cons q gs ih =>
    rw [List.flatMap_cons, List.filter_append]
    have hs' := List.pairwise_cons.mp hs
    rcases List.mem_cons.mp hg with rfl | hg
    · have h1 : g.2.filter (fun r => decide (sg k r = g.1)) = g.2 := List.filter_eq_self.mpr fun r hr => by simpa using (hm g (by simp)).2 r hr
      have h2 : (gs.flatMap (·.2)).filter (fun r => decide (sg k r = g.1)) = [] := List.filter_eq_nil_iff.mpr fun r hr => by
        obtain ⟨q, hq, hrq⟩ := List.mem_flatMap.mp hr
        rw [(hm q (by simp [hq])).2 r hrq]
        have := hs'.1 q hq
        simp; rintro e; rw [e] at this; exact List.lt_irrefl _ this
      rw [h1, h2, List.append_nil]
    · have h1 : q.2.filter (fun r => decide (sg k r = g.1)) = [] := List.filter_eq_nil_iff.mpr fun r hr => by
        rw [(hm q (by simp)).2 r hr]
        have := hs'.1 g hg
        simp; rintro e; rw [e] at this; exact List.lt_irrefl _ this
      rw [h1, List.nil_append]
      refine ih hg (fun x hx => hm x (by simp [hx])) hs'.2 ?_
      refine ⟨?_, fun a ha b hb => P.pre a ?_ b ?_⟩
      · have := P.srt; unfold Srt at this; rw [List.flatMap_cons, List.pairwise_append] at this; exact this.2.1
      · rw [List.flatMap_cons]; exact List.mem_append_right _ ha
      · rw [List.flatMap_cons]; exact List.mem_append_right _ hb
theorem group_srt {k : Nat} {rs : List Rw} (P : Pre k rs) {g : List Nat × List Rw} (hg : g ∈ groups k rs) : Srt (g.2.map (cutR k)) := by
  have hm := (groups_mem k rs g hg).2
  rw [← filter_group P hg]
  rw [← filter_group P hg] at hm
  unfold Srt
  rw [List.pairwise_map]
  refine List.Pairwise.imp_of_mem ?_ (List.Pairwise.sublist List.filter_sublist P.srt)
  intro a b ha hb l
  have ea := hm a ha
  have eb := hm b hb
  have hp := P.pre a (List.mem_filter.mp ha).1 b (List.mem_filter.mp hb).1
  have pa := parts k a.1
  have pb := parts k b.1
  unfold sg at ea eb
  rw [ea] at pa; rw [eb] at pb
  rw [← pa, ← pb, hp, lt_append, lt_append] at l
  exact l
/-- the size of the shared beginning of sorted rows -/
def shareN (rs : List Rw) : Nat := match rs.head?, rs.getLast? with
  | some a, some b => lcp a.1 b.1
  | _, _ => 0
theorem shareN_eq {a b : Rw} {rs : List Rw} (h : (a :: rs).getLast? = some b) : shareN (a :: rs) = lcp a.1 b.1 := by unfold shareN; rw [h]; rfl
theorem srt_pre {rs : List Rw} (h : Srt rs) : Pre (shareN rs) rs := by
  refine ⟨h, ?_⟩
  cases rs with
  | nil => intro a ha; cases ha
  | cons a rs =>
    obtain ⟨i, b, e⟩ : ∃ i b, a :: rs = i ++ [b] := by
      rcases last_cases (a :: rs) with q | q
      · cases q
      · exact q
    have hl : (a :: rs).getLast? = some b := by rw [e]; simp
    rw [shareN_eq hl]
    have key : ∀ x ∈ a :: rs, x.1.take (lcp a.1 b.1) = a.1.take (lcp a.1 b.1) := by
      intro x hx
      refine lcp_mid ?_ ?_
      · rcases List.mem_cons.mp hx with rfl | hx
        · exact List.lt_irrefl _
        · exact fun q => List.lt_irrefl _ (List.lt_trans q ((List.pairwise_cons.mp h).1 x hx))
      · rw [e] at hx h
        rcases List.mem_append.mp hx with hx | hx
        · exact fun q => List.lt_irrefl _ (List.lt_trans q ((List.pairwise_append.mp h).2.2 x hx b (by simp)))
        · simp at hx; subst hx; exact List.lt_irrefl _
    intro x hx y hy
    rw [key x hx, key y hy]
/-- two lists sorted by the same names, one a shuffle of the other, are one -/
theorem srt_unique {xs ys : List Rw} (hx : Srt xs) (hy : Srt ys) (h : xs.Perm ys) : xs = ys := by
  refine h.eq_of_pairwise ?_ hx hy
  intro a b _ _ l1 l2
  exact absurd (List.lt_trans l1 l2) (List.lt_irrefl _)
def Dst (rs : List Rw) : Prop := rs.Pairwise fun a b => a.1 ≠ b.1
theorem Srt.dst {rs : List Rw} (h : Srt rs) : Dst rs := h.imp fun l e => by rw [e] at l; exact List.lt_irrefl _ l
theorem Dst.perm {xs ys : List Rw} (h : xs.Perm ys) (d : Dst xs) : Dst ys := h.pairwise d fun l => Ne.symm l
theorem Dst.filter {xs : List Rw} (p : Rw → Bool) (d : Dst xs) : Dst (xs.filter p) := List.Pairwise.sublist List.filter_sublist d
theorem Srt.filter {xs : List Rw} (p : Rw → Bool) (d : Srt xs) : Srt (xs.filter p) := List.Pairwise.sublist List.filter_sublist d
theorem srt_of {rs : List Rw} (d : Dst rs) (h : rs.Pairwise fun a b => ¬ b.1 < a.1) : Srt rs := by
  refine List.Pairwise.imp ?_ (List.pairwise_and_iff.mpr ⟨d, h⟩)
  rintro a b ⟨h1, h2⟩
  rcases lt_tri a.1 b.1 with q | q | q
  · exact q
  · exact absurd q h1
  · exact absurd q h2
end Mine

set_option autoImplicit false
set_option linter.all false
set_option maxRecDepth 100000
namespace Mine
open PySem PyProof.Rows PySem.W PySem.NumText
/-! ## written numbers -/
def dg (n : Nat) : List Nat := (Nat.toDigits 10 n).map Char.toNat
theorem dec_nn (n : Nat) : dec (n : Int) = dg n := KIN.signs_num n
theorem dec_neg (n : Nat) : dec (Int.negSucc n) = 45 :: dg (n + 1) := by
  unfold dec dg
  rw [signs_ofString]
  show ("-" ++ Nat.repr (n + 1)).toList.map Char.toNat = _
  rw [String.toList_append, Nat.toList_repr, List.map_append]
  rfl
theorem dg_fig {n c : Nat} (h : c ∈ dg n) : 48 ≤ c ∧ c ≤ 57 := by
  obtain ⟨ch, hch, rfl⟩ := List.mem_map.mp h
  exact digit_range (Nat.isDigit_of_mem_toDigits (by decide) (by decide) hch)
theorem dg_len {n : Nat} (h : n < 10 ^ 60) : (dg n).length ≤ 60 := by
  unfold dg
  rw [List.length_map]
  exact digits10_le (by decide) h
theorem dg_pos (n : Nat) : 1 ≤ (dg n).length := by
  unfold dg
  rw [List.length_map]
  exact toDigits_len_ge 10 n
theorem dg_small {n : Nat} (h : n < 10) : dg n = [48 + n] := by
  unfold dg
  rw [Nat.toDigits_of_lt_base h]
  revert n
  decide
theorem dg_big {n : Nat} (h : ¬ n < 10) : dg n = dg (n / 10) ++ dg (n % 10) := by
  have t : Nat.toDigits 10 (n / 10) ++ Nat.toDigits 10 (n % 10) = Nat.toDigits 10 (10 * (n / 10) + n % 10) := Nat.toDigits_append_toDigits (by decide) (by (exact a345 h)) (Nat.mod_lt n (by decide))
  rw [Nat.div_add_mod] at t
  unfold dg
  rw [← t, List.map_append]
theorem dg_head : ∀ (n : Nat), 0 < n → (dg n).getD 0 0 ≠ 48 := by
  intro n
  induction n using Nat.strongRecOn with
  | _ n ih =>
    intro hp
    by_cases h : n < 10
    · rw [dg_small h]; show 48 + n ≠ 48; (exact a346 hp)
    · rw [dg_big h]
      have h1 := dg_pos (n / 10)
      have := ih (n / 10) (by (exact a347 hp)) (by (exact a345 h))
      rw [List.getD_eq_getElem?_getD, List.getElem?_append_left (by (exact a20 h1)), ← List.getD_eq_getElem?_getD]
      exact this
theorem dg_zero : dg 0 = [48] := dg_small (by decide)
theorem dg_reads {n : Nat} (h : n < 10 ^ 60) : PySem.intText? (txt (dg n)) = some (n : Int) := by
  have hd : AllDigits (txt (dg n)).cps.toList := fun c hc => dg_fig hc
  have hne : (txt (dg n)).cps.toList ≠ [] := fun e => by
    have := dg_pos n
    have e : dg n = [] := e
    rw [e] at this; exact absurd this (by decide)
  have e := intText_digits hd hne (Nat.le_trans (dg_len h) (by decide))
  have e2 : digitsVal (txt (dg n)).cps.toList = n := KIN.val_back n
  rw [e2] at e
  exact e
/-- a figure -/
def isFig (c : Nat) : Bool := decide (c ∈ [48, 49, 50, 51, 52, 53, 54, 55, 56, 57])
theorem isFig_iff (c : Nat) : isFig c = true ↔ 48 ≤ c ∧ c ≤ 57 := by
  unfold isFig
  rw [decide_eq_true_eq]
  simp only [List.mem_cons, List.not_mem_nil, or_false]
  (exact a354 )
def figs (w : List Nat) : List Nat := if [45].isPrefixOf w then w.drop 1 else w
def okF (w : List Nat) : Bool := (decide ((1 : Int) ≤ ((figs w).length : Nat)) && decide ((((figs w).length : Nat) : Int) ≤ 60)) && (figs w).all isFig
def badNum (w : List Nat) : Bool := !okF w || ((figs w).getD 0 0 == 48 && !(w == [48]))
theorem neg_pre (w : List Nat) : [45].isPrefixOf (45 :: w) = true := by simp
theorem pos_pre {w : List Nat} (h : 45 ∉ w) : [45].isPrefixOf w = false := by
  cases w with
  | nil => rfl
  | cons a w =>
    have : a ≠ 45 := fun e => h (by rw [e]; exact List.mem_cons_self ..)
    show ((45 == a) && [].isPrefixOf w) = false
    rw [beq_eq_false_iff_ne.mpr this.symm]; rfl
theorem figs_neg (w : List Nat) : figs (45 :: w) = w := if_pos (neg_pre w)
theorem figs_pos {w : List Nat} (h : 45 ∉ w) : figs w = w := if_neg (by rw [pos_pre h]; decide)
theorem dg_no {n c : Nat} (h : c < 48 ∨ 57 < c) : c ∉ dg n := fun m => by have := dg_fig m; (exact a348 this h)
theorem figs_dec (i : Int) : figs (dec i) = dg i.natAbs := by
  cases i with
  | ofNat n => exact (congrArg figs (dec_nn n)).trans (figs_pos (dg_no (.inl (by decide))))
  | negSucc n => rw [dec_neg]; exact figs_neg _
theorem pre_dec (i : Int) : [45].isPrefixOf (dec i) = decide (i < 0) := by
  cases i with
  | ofNat n => exact (congrArg _ (dec_nn n)).trans ((pos_pre (dg_no (.inl (by decide)))).trans (decide_eq_false (Int.not_lt.mpr (Int.natCast_nonneg n))).symm)
  | negSucc n => rw [dec_neg, neg_pre]; exact (decide_eq_true (by (first | lia | omega))).symm
theorem okF_dec {i : Int} (h : i.natAbs < 10 ^ 60) : okF (dec i) = true := by
  unfold okF
  have h1 : (1 : Int) ≤ ((dg i.natAbs).length : Nat) := Int.ofNat_le.mpr (dg_pos _)
  have h2 : (((dg i.natAbs).length : Nat) : Int) ≤ 60 := Int.ofNat_le.mpr (dg_len h)
  rw [figs_dec, decide_eq_true h1, decide_eq_true h2, List.all_eq_true.mpr fun c hc => (isFig_iff c).mpr (dg_fig hc)]
  rfl
theorem good_dec {i : Int} (h : i.natAbs < 10 ^ 60) : ((dg i.natAbs).getD 0 0 == 48 && !(dec i == [48])) = false := by
  cases i with
  | ofNat n =>
    show ((dg n).getD 0 0 == 48 && !(dec (n : Int) == [48])) = false
    rw [dec_nn]
    by_cases h0 : n = 0
    · rw [h0, dg_zero]; rfl
    · rw [show ((dg n).getD 0 0 == 48) = false from beq_eq_false_iff_ne.mpr (dg_head n (by (exact a350 h0)))]; rfl
  | negSucc n =>
    show ((dg (n + 1)).getD 0 0 == 48 && _) = false
    rw [show ((dg (n + 1)).getD 0 0 == 48) = false from beq_eq_false_iff_ne.mpr (dg_head (n + 1) (by (exact a353 )))]; rfl
theorem dec_len {i : Int} (h : i.natAbs < 10 ^ 60) : (dec i).length ≤ 61 := by
  cases i with
  | ofNat n => exact Nat.le_trans (Nat.le_of_eq (congrArg List.length (dec_nn n))) (Nat.le_trans (dg_len h) (by decide))
  | negSucc n => rw [dec_neg]; exact Nat.succ_le_succ (dg_len h)
theorem dec_pos (i : Int) : 1 ≤ (dec i).length := by
  cases i with
  | ofNat n => exact Nat.le_trans (dg_pos n) (Nat.le_of_eq (congrArg List.length (dec_nn n)).symm)
  | negSucc n => rw [dec_neg]; exact Nat.le_add_left ..
theorem dec_no {i : Int} {c : Nat} (h : c < 48 ∨ 57 < c) (h2 : c ≠ 45) : c ∉ dec i := by
  cases i with
  | ofNat n => intro m; exact dg_no h ((dec_nn n) ▸ m : c ∈ dg n)
  | negSucc n =>
    rw [dec_neg]
    exact fun m => (List.mem_cons.mp m).elim h2 (dg_no h)
end Mine

set_option autoImplicit false
set_option linter.all false
set_option maxRecDepth 100000
namespace Mine
open PySem PySem.W PyProof.Rows
/-! ## small things -/
def lit (s : String) : List Nat := s.toList.map Char.toNat
theorem szL : sizeLine = 16777216 := rfl
theorem lt62 {n : Nat} (h : n ≤ sizeLine) : n < 2 ^ 62 := Nat.lt_of_le_of_lt h (by decide)
theorem nn62 (n : Nat) : -(2 ^ 62) ≤ (n : Int) := by first | exact Nat.le_trans (by decide) hd | exact Nat.le_trans (by decide) hG | (exact a450 ) | (first | lia | omega)
theorem il62 {n : Nat} (h : n < 2 ^ 62) : (n : Int) < 2 ^ 62 := by first | exact Nat.le_trans (by decide) hd | exact Nat.le_trans (by decide) hG | (exact a451 h) | (first | lia | omega)
theorem n0 (n : Nat) : 0 ≤ (n : Int) := Int.natCast_nonneg n
theorem sz0 : 0 ≤ sizeLine := by decide
theorem sz1 : 1 ≤ sizeLine := by decide
theorem sz2 : 2 ≤ sizeLine := by decide
theorem sz3 : 3 ≤ sizeLine := by decide
theorem rng_get {n i : Nat} {x : V} (h : ((List.range ((n : Int) - 0).toNat).map fun (i : Nat) => V.int (0 + (i : Int)))[i]? = some x) : i < n ∧ x = .int i := by
  have hi : i < n := by have := (List.getElem?_eq_some_iff.mp h).1; simpa using this
  simp [List.getElem?_range hi] at h
  exact ⟨hi, h.symm⟩
theorem rng_len (n : Nat) : ((List.range ((n : Int) - 0).toNat).map fun (i : Nat) => V.int (0 + (i : Int))).length = n := by simp
theorem emod_lt {c m : Int} (h : 0 < m) (h2 : m < 2 ^ 62) : c % m < 2 ^ 62 := Int.lt_trans (Int.emod_lt_of_pos c h) h2
theorem emod_nn (c : Int) {m : Int} (h : 0 < m) : 0 ≤ c % m := Int.emod_nonneg c (Int.ne_of_gt h)
theorem pick2 (c a b : Int) : [V.int a, V.int b][(c % 2).toNat]? = some (.int (if c % 2 = 0 then a else b)) := by
  rcases Int.emod_two_eq c with e | e <;> rw [e] <;> rfl
theorem Ev.to {G : Gl} {K : Sx} {ρ : List V} {σ : Ow} {e : PySem.Expr} {x y : V} (h : Ev G K ρ σ e x) (hx : x = y) : Ev G K ρ σ e y := hx ▸ h
section
variable {G : Gl}
theorem c_cell_at (FA : A_law_cell_at G) {zs : List Int} (hz : zs.length ≤ 63) {k : Int} (hk : 0 ≤ k) (hd : 0 < G.d) : Pure G "_law_cell_at" [.scr (zs.map .int), .int k] (.int (zs.getD k.toNat 0)) := by
  refine pure_of FA rfl hd (ws_if (tr_cmp (ev_var 1 rfl) (ev_lenc (ev_var 0 rfl) (by rw [List.length_map]; (exact a452 hz))) cm_lt) (fun h => ?_) (fun h => ?_))
  · have h := of_decide_eq_true h
    rw [List.length_map] at h
    refine ws_ret (ev_idxc (ev_var 0 rfl) (ev_var 1 rfl) hk (by first | exact Nat.le_trans (by decide) hd | exact Nat.le_trans (by decide) hG | (exact a458 h hz) | (first | lia | omega)) ?_) (.id _)
    have hn : k.toNat < zs.length := by first | exact Nat.le_trans (by decide) hd | exact Nat.le_trans (by decide) hG | (exact a385 hk h) | (first | lia | omega)
    rw [List.getElem?_map, List.getElem?_eq_getElem hn, List.getD_eq_getElem?_getD, List.getElem?_eq_getElem hn]; rfl
  · have h := of_decide_eq_false h
    rw [List.length_map] at h
    refine ws_nil (ws_ret ev_int ?_)
    rw [List.getD_eq_getElem?_getD, List.getElem?_eq_none (by first | exact Nat.le_trans (by decide) hd | exact Nat.le_trans (by decide) hG | (exact a460 hk h) | (first | lia | omega))]; exact .id _
def nxt (n : Int) : Int := (n * 48271 + 11) % 2147483647
def signs : List Nat := lit " !\"#$&'()*+,-./0123456789:;<=>?@ABCDEFGHIJKLMNOPQRSTUVWXYZ[\\]^_`" ++ lit "abcdefghijklmnopqrstuvwxyz{|}~"
theorem signs_length : signs.length = 94 := by decide +kernel
def signBy (c : Int) : Nat := signs.getD (c % 94).toNat 0
def wordGo (c : Int) : Nat → Int → List Nat → Int × List Nat
  | 0, n, w => (n, w)
  | k + 1, n, w => let r := wordGo c k n w; (nxt r.1, r.2 ++ [signBy (65 + nxt r.1 / 7 % (if c % 2 = 0 then 2 else 94))])
def wordBy (c : Int) (n : Nat) : List Nat := (wordGo c n c []).2
theorem wordGo_len (c : Int) : ∀ (k : Nat) (n : Int) (w : List Nat), (wordGo c k n w).2.length = w.length + k
  | 0, _, _ => rfl
  | k + 1, n, w => by show (_ ++ [_]).length = _; rw [List.length_append, wordGo_len c k]; rfl
theorem wordBy_len (c : Int) (n : Nat) : (wordBy c n).length = n := by unfold wordBy; rw [wordGo_len]; exact Nat.zero_add _
theorem c_sign_by (FA : A_law_sign_by G) {c : Int} (hd : 0 < G.d) : Pure G "_law_sign_by" [.int c] (.str [signBy c]) := by
  refine pure_of FA rfl hd (ws_asg 1 ev_str (ws_asg 1 (ev_adds (ev_var 1 rfl) ev_str (by decide +kernel)) ?_))
  refine ws_ret (x := .str [signs.getD (c % 94).toNat 0]) (ev_idxs (a := signs) (ev_var 1 (by kernel_rfl)) (ev_mod (ev_var 0 rfl) ev_int (by decide)) (emod_nn c (by decide)) ?_ ?_) (.id _)
  · rw [signs_length]; exact Int.emod_lt_of_pos c (by decide)
  · rw [signs_length]; decide
theorem c_word_by (FA : A_law_word_by G) (FS : A_law_sign_by G) {c : Int} {n : Nat} (hn : n ≤ 1000) (hd : 1 < G.d) : Pure G "_law_word_by" [.int c, .int n] (.str (wordBy c n)) := by
  refine pure_of FA rfl (by first | exact Nat.le_trans (by decide) hd | exact Nat.le_trans (by decide) hG | (first | lia | omega) | (first | lia | omega)) (ws_asg 2 ev_str (ws_asg 3 (ev_var 0 rfl) ?_))
  refine ws_for (fun i ρ σ => ∃ kv, ρ = [.int c, .int n, .str (wordGo c i c []).2, .int (wordGo c i c []).1, kv] ∧ σ = σ0) (ev_range1 (ev_var 1 rfl) (nn62 n) (by first | exact Nat.le_trans (by decide) hd | exact Nat.le_trans (by decide) hG | (exact a490 hn) | (first | lia | omega))) rfl ⟨.unb, rfl, rfl⟩ ?_ ?_
  · rintro i ρ σ y hy ⟨kv, rfl, rfl⟩
    obtain ⟨hi, rfl⟩ := rng_get hy
    refine ⟨_, asg_name 4, ws_asg 3 (ev_mod (ev_add (ev_mul (ev_var 3 rfl) ev_int (.of_right (by decide))) ev_int) ev_int (by decide)) (ws_asg 2 ?_ (ws_nil ⟨_, rfl, rfl⟩))⟩
    refine ev_adds (ev_var 2 rfl) (ev_call (c_sign_by (G := G.dn) FS (by first | exact dl hd | exact dl0 hd | (show 0 < G.d - 1; (first | lia | omega)))) (evl_cons (ev_add ev_int (ev_mod (ev_fdiv (ev_var 3 rfl) ev_int (by decide) (by decide)) (ev_idxl (ev_list (evl_cons ev_int (evl_cons ev_int evl_nil)) sz2) (ev_mod (ev_var 0 rfl) ev_int (by decide)) (emod_nn c (by decide)) (emod_lt (by decide) (by decide)) (pick2 c _ _)) (by split <;> decide))) evl_nil)) ?_
    rw [wordGo_len, szL]; show 0 + i + 1 ≤ _; (exact a498 hi hn)
  · rintro ρ σ ⟨kv, rfl, rfl⟩
    rw [rng_len]
    exact ws_ret (ev_var 2 rfl) (.id _)
end
end Mine

set_option autoImplicit false
set_option linter.all false
set_option maxRecDepth 100000
namespace Mine
open PySem PySem.W PyProof.Rows
/-! ## small things -/
section
variable {G : Gl}
def numGo (c : Int) : Nat → Int × Int
  | 0 => (c, 0)
  | k + 1 => (nxt (numGo c k).1, (numGo c k).2 * 10 + nxt (numGo c k).1 / 7 % 10)
def numBy (c : Int) : Int := if 1 < c % 5 then c / 5 % 39 - 19 else (if c / 5 % 2 = 0 then 1 else -1) * (numGo c (if c % 5 = 0 then 60 else (1 + c / 10 % 60).toNat)).2
theorem c_number_by (FA : A_law_number_by G) {c : Int} (hd : 0 < G.d) : Pure G "_law_number_by" [.int c] (.int (numBy c)) := by
  refine pure_of FA rfl hd (ws_if (tr_cmp (ev_mod (ev_var 0 rfl) ev_int (by decide)) ev_int cm_gt) (fun h => ?_) (fun h => ?_))
  · rw [show numBy c = c / 5 % 39 - 19 from if_pos (of_decide_eq_true h)]
    exact ws_ret (ev_sub (ev_mod (ev_fdiv (ev_var 0 rfl) ev_int (by decide) (by decide)) ev_int (by decide)) ev_int) (.id _)
  · have hc := of_decide_eq_false h
    rw [show numBy c = (if c / 5 % 2 = 0 then 1 else -1) * (numGo c (if c % 5 = 0 then 60 else (1 + c / 10 % 60).toNat)).2 from if_neg hc]
    obtain ⟨n, hn, e1⟩ : ∃ n : Nat, n ≤ 60 ∧ n = (if c % 5 = 0 then 60 else (1 + c / 10 % 60).toNat) := ⟨_, by split <;> (first | exact a477  | exact a478 ), rfl⟩
    rw [← e1]
    have hv : [V.int 60, V.int (1 + c / 10 % 60)][(c % 5).toNat]? = some (.int n) := by
      rw [e1]
      rcases (show c % 5 = 0 ∨ c % 5 = 1 by first | exact Nat.le_trans (by decide) hd | exact Nat.le_trans (by decide) hG | (first | lia | omega) | (first | lia | omega)) with e | e <;> rw [e]
      · rfl
      · show some (V.int _) = some (V.int _)
        rw [if_neg (by decide), Int.toNat_of_nonneg (by first | exact Nat.le_trans (by decide) hd | exact Nat.le_trans (by decide) hG | (exact a483 ) | (first | lia | omega))]
    refine ws_nil (ws_asg 1 (ev_idxl (ev_list (evl_cons ev_int (evl_cons (ev_add ev_int (ev_mod (ev_fdiv (ev_var 0 rfl) ev_int (by decide) (by decide)) ev_int (by decide))) evl_nil)) sz2) (ev_mod (ev_var 0 rfl) ev_int (by decide)) (emod_nn c (by decide)) (emod_lt (by decide) (by decide)) hv) (ws_asg 2 ev_int (ws_asg 3 (ev_var 0 rfl) ?_)))
    refine ws_for (fun i ρ σ => ∃ kv, ρ = [.int c, .int n, .int (numGo c i).2, .int (numGo c i).1, kv] ∧ σ = σ0) (ev_range1 (ev_var 1 rfl) (nn62 n) (by first | exact Nat.le_trans (by decide) hd | exact Nat.le_trans (by decide) hG | (exact a517 hn) | (first | lia | omega))) rfl ⟨.unb, rfl, rfl⟩ ?_ ?_
    · rintro i ρ σ y hy ⟨kv, rfl, rfl⟩
      obtain ⟨hi, rfl⟩ := rng_get hy
      exact ⟨_, asg_name 4, ws_asg 3 (ev_mod (ev_add (ev_mul (ev_var 3 rfl) ev_int (.of_right (by decide))) ev_int) ev_int (by decide)) (ws_asg 2 (ev_add (ev_mul (ev_var 2 rfl) ev_int (.of_right (by decide))) (ev_mod (ev_fdiv (ev_var 3 rfl) ev_int (by decide) (by decide)) ev_int (by decide))) (ws_nil ⟨_, rfl, rfl⟩))⟩
    · rintro ρ σ ⟨kv, rfl, rfl⟩
      rw [rng_len]
      exact ws_ret (ev_mul (ev_idxl (ev_list (evl_cons ev_int (evl_cons (ev_neg ev_int) evl_nil)) sz2) (ev_mod (ev_fdiv (ev_var 0 rfl) ev_int (by decide) (by decide)) ev_int (by decide)) (emod_nn _ (by decide)) (emod_lt (by decide) (by decide)) (pick2 _ _ _)) (ev_var 2 rfl) (.of_left (by split <;> decide))) (.id _)
theorem c_whole (FA : A_law_whole G) {c : Int} (hd : 0 < G.d) : Pure G "_law_whole" [.int c] (.bool true) :=
  pure_of FA rfl hd (ws_ret (ev_bop (evb_and (ev_inst 4 is_int_int (ev_var 0 rfl)) fun _ => evb_one (ev_not (ev_inst 11 is_int_bool (ev_var 0 rfl))))) (.id _))
/-- plain data, no deeper than n -/
inductive Pl : Nat → V → Prop
  | none (n : Nat) : Pl (n + 1) .none
  | str (n : Nat) (s : List Nat) : Pl (n + 1) (.str s)
  | int (n : Nat) (i : Int) : Pl (n + 1) (.int i)
  | tup (n : Nat) {xs : List V} : xs.length ≤ sizeLine → (∀ x ∈ xs, Pl n x) → Pl (n + 1) (.tup xs)
  | lst (n : Nat) {xs : List V} : xs.length ≤ sizeLine → (∀ x ∈ xs, Pl n x) → Pl (n + 1) (.lst xs)
theorem Pl.up {n : Nat} {x : V} (h : Pl n x) : Pl (n + 1) x := by
  induction h with
  | none n => exact .none _
  | str n s => exact .str _ s
  | int n i => exact .int _ i
  | tup n hl _ ih => exact .tup _ hl ih
  | lst n hl _ ih => exact .lst _ hl ih
theorem Pl.mono {n k : Nat} {x : V} (h : Pl n x) (hk : n ≤ k) : Pl k x := by
  obtain ⟨d, rfl⟩ : ∃ d, k = n + d := ⟨k - n, by first | exact Nat.le_trans (by decide) hd | exact Nat.le_trans (by decide) hG | (exact a543 hk) | (first | lia | omega)⟩
  clear hk
  induction d with
  | zero => exact h
  | succ d ih => exact ih.up
theorem Pl.ok {n : Nat} {x : V} (h : Pl n x) : x.ok = true := by cases h <;> rfl
theorem c_alike : ∀ (n : Nat) {G : Gl} {x : V}, A_law_alike G → A_law_whole G → Pl n x → n + 1 ≤ G.d → Pure G "_law_alike" [x, x] (.bool true) := by
  intro n
  induction n with
  | zero => intro G x FA FW h; cases h
  | succ n ih =>
    intro G x FA FW h hd
    cases h with
    | none => exact pure_of FA rfl (by first | exact Nat.le_trans (by decide) hd | exact Nat.le_trans (by decide) hG | (exact a544 hd) | (first | lia | omega)) (ws_if (tr_cmp (ev_var 1 rfl) ev_none cm_is_none) (fun _ => ws_ret (ev_cmp (ev_var 0 rfl) ev_none cm_is_none) (.id _)) nofun)
    | str s =>
      refine pure_of FA rfl (by first | exact Nat.le_trans (by decide) hd | exact Nat.le_trans (by decide) hG | (exact a544 hd) | (first | lia | omega)) (ws_if (tr_cmp (ev_var 1 rfl) ev_none (cm_is_nn rfl)) nofun fun _ => ws_nil (ws_if (tr_ev (ev_inst 10 is_str_str (ev_var 1 rfl))) (fun _ => ?_) nofun))
      exact ws_ret (ev_bop (evb_and (ev_inst 10 is_str_str (ev_var 0 rfl)) fun _ => evb_one (ev_cmp (ev_var 0 rfl) (ev_var 1 rfl) cm_eqs))) (by rw [beq_self_eq_true]; exact Res.id _)
    | int i =>
      refine pure_of FA rfl (by first | exact Nat.le_trans (by decide) hd | exact Nat.le_trans (by decide) hG | (exact a544 hd) | (first | lia | omega)) (ws_if (tr_cmp (ev_var 1 rfl) ev_none (cm_is_nn rfl)) nofun fun _ => ws_nil (ws_if (tr_ev (ev_inst 10 is_int_str (ev_var 1 rfl))) nofun fun _ => ws_nil (ws_if (tr_ev (ev_inst 4 is_int_int (ev_var 1 rfl))) (fun _ => ?_) nofun)))
      exact ws_ret (ev_bop (evb_and (ev_call (c_whole (G := G.dn) FW (by first | exact dl hd | exact dl0 hd | (show 0 < G.d - 1; (exact a560 hd)))) (evl_cons (ev_var 0 rfl) evl_nil)) fun _ => evb_one (ev_cmp (ev_var 0 rfl) (ev_var 1 rfl) cm_eqi))) (by rw [beq_self_eq_true]; exact Res.id _)
    | @tup _ xs hl hx =>
      refine pure_of FA rfl (by first | exact Nat.le_trans (by decide) hd | exact Nat.le_trans (by decide) hG | (exact a544 hd) | (first | lia | omega)) (ws_if (tr_cmp (ev_var 1 rfl) ev_none (cm_is_nn rfl)) nofun fun _ => ws_nil (ws_if (tr_ev (ev_inst 10 is_tup_str (ev_var 1 rfl))) nofun fun _ => ws_nil (ws_if (tr_ev (ev_inst 4 is_tup_int (ev_var 1 rfl))) nofun fun _ => ws_nil ?_)))
      refine ws_if (tr_bop (trl_and (tr_ev (ev_inst 5 is_tup_tuple (ev_var 1 rfl))) fun _ => trl_one (tr_not (tr_ev (ev_inst 5 is_tup_tuple (ev_var 0 rfl)))))) nofun fun _ => ws_nil ?_
      refine ws_if (tr_bop (trl_and (tr_ev (ev_inst 6 is_tup_list (ev_var 1 rfl))) nofun (c := true))) nofun fun _ => ws_nil ?_
      refine ws_if (tr_cmp (ev_lent (ev_var 0 rfl) (lt62 hl)) (ev_lent (ev_var 1 rfl) (lt62 hl)) cm_nei) (fun h => by simp at h) fun _ => ws_nil ?_
      refine ws_for (fun i ρ σ => ∃ kv, ρ = [.tup xs, .tup xs, kv] ∧ σ = σ0) (ev_range1 (ev_lent (ev_var 1 rfl) (lt62 hl)) (nn62 _) (il62 (lt62 hl))) rfl ⟨.unb, rfl, rfl⟩ ?_ ?_
      · rintro i ρ σ y hy ⟨kv, rfl, rfl⟩
        obtain ⟨hi, rfl⟩ := rng_get hy
        have hz : xs[(i : Int).toNat]? = some xs[i] := List.getElem?_eq_getElem hi
        refine ⟨_, asg_name 2, ws_if (tr_not (tr_ev (ev_call (ih (G := G.dn) FA FW (hx _ (List.getElem_mem hi)) (by first | exact dl hd | exact dl0 hd | (show n + 1 ≤ G.d - 1; (exact a567 hd)))) (evl_cons (ev_idxt (ev_var 0 rfl) (ev_var 2 rfl) (n0 i) (il62 (Nat.lt_trans hi (lt62 hl))) hz) (evl_cons (ev_idxt (ev_var 1 rfl) (ev_var 2 rfl) (n0 i) (il62 (Nat.lt_trans hi (lt62 hl))) hz) evl_nil))))) nofun fun _ => ws_nil (ws_nil ⟨_, rfl, rfl⟩)⟩
      · rintro ρ σ ⟨kv, rfl, rfl⟩
        exact ws_ret ev_bool (.id _)
    | @lst _ xs hl hx =>
      refine pure_of FA rfl (by first | exact Nat.le_trans (by decide) hd | exact Nat.le_trans (by decide) hG | (exact a544 hd) | (first | lia | omega)) (ws_if (tr_cmp (ev_var 1 rfl) ev_none (cm_is_nn rfl)) nofun fun _ => ws_nil (ws_if (tr_ev (ev_inst 10 is_lst_str (ev_var 1 rfl))) nofun fun _ => ws_nil (ws_if (tr_ev (ev_inst 4 is_lst_int (ev_var 1 rfl))) nofun fun _ => ws_nil ?_)))
      refine ws_if (tr_bop (trl_and (tr_ev (ev_inst 5 is_lst_tuple (ev_var 1 rfl))) nofun (c := true))) nofun fun _ => ws_nil ?_
      refine ws_if (tr_bop (trl_and (tr_ev (ev_inst 6 is_lst_list (ev_var 1 rfl))) fun _ => trl_one (tr_not (tr_ev (ev_inst 6 is_lst_list (ev_var 0 rfl)))))) nofun fun _ => ws_nil ?_
      refine ws_if (tr_cmp (ev_lenl (ev_var 0 rfl) (lt62 hl)) (ev_lenl (ev_var 1 rfl) (lt62 hl)) cm_nei) (fun h => by simp at h) fun _ => ws_nil ?_
      refine ws_for (fun i ρ σ => ∃ kv, ρ = [.lst xs, .lst xs, kv] ∧ σ = σ0) (ev_range1 (ev_lenl (ev_var 1 rfl) (lt62 hl)) (nn62 _) (il62 (lt62 hl))) rfl ⟨.unb, rfl, rfl⟩ ?_ ?_
      · rintro i ρ σ y hy ⟨kv, rfl, rfl⟩
        obtain ⟨hi, rfl⟩ := rng_get hy
        have hz : xs[(i : Int).toNat]? = some xs[i] := List.getElem?_eq_getElem hi
        refine ⟨_, asg_name 2, ws_if (tr_not (tr_ev (ev_call (ih (G := G.dn) FA FW (hx _ (List.getElem_mem hi)) (by first | exact dl hd | exact dl0 hd | (show n + 1 ≤ G.d - 1; (exact a567 hd)))) (evl_cons (ev_idxl (ev_var 0 rfl) (ev_var 2 rfl) (n0 i) (il62 (Nat.lt_trans hi (lt62 hl))) hz) (evl_cons (ev_idxl (ev_var 1 rfl) (ev_var 2 rfl) (n0 i) (il62 (Nat.lt_trans hi (lt62 hl))) hz) evl_nil))))) nofun fun _ => ws_nil (ws_nil ⟨_, rfl, rfl⟩)⟩
      · rintro ρ σ ⟨kv, rfl, rfl⟩
        exact ws_ret ev_bool (.id _)
end
end Mine

set_option autoImplicit false
set_option linter.all false
set_option maxRecDepth 100000
namespace Mine
open PySem PySem.W PyProof.Rows
/-! ## signs and names -/
def okS (c : Nat) : Bool := (decide ((32 : Int) ≤ c) && decide ((c : Int) ≤ 126)) && !((c : Int) == 37)
def okN (w : List Nat) : Bool := decide (w.length ≤ 40) && w.all okS
structure CW (G : Gl) : Prop where
  is_sign : A_is_sign G
  is_name : A_is_name G
  most : ∃ t, G.mg "MOST_SIGNS" = some (.int 40 t)
  blank : ∃ t, G.mg "BLANK" = some (.int 32 t)
  percent : ∃ t, G.mg "PERCENT" = some (.int 37 t)
  tilde : ∃ t, G.mg "TILDE" = some (.int 126 t)
section
variable {G : Gl}
theorem CW.dn (C : CW G) : CW G.dn := ⟨C.is_sign, C.is_name, C.most, C.blank, C.percent, C.tilde⟩
theorem c_is_sign (C : CW G) {c : Nat} (hd : 0 < G.d) : Pure G "is_sign" [.str [c]] (.bool (okS c)) :=
  pure_of C.is_sign rfl hd (ws_asg 1 (ev_ord (ev_var 0 rfl)) (ws_ret (ev_bop (evb_and (ev_chain (ev_gint (G := G.dn) C.blank) (ev_var 1 rfl) (ev_gint (G := G.dn) C.tilde) cm_le cm_le) fun _ => evb_one (ev_cmp (ev_var 1 rfl) (ev_gint (G := G.dn) C.percent) cm_nei))) (.id _)))
theorem c_is_name (C : CW G) {w : List Nat} (hw : w.length ≤ 1000) (hd : 2 ≤ G.d) : Pure G "is_name" [.str w] (.bool (okN w)) := by
  have e : (w.filterMap fun c => some (V.bool (okS c))) = (w.map okS).map .bool := by rw [List.filterMap_eq_map', List.map_map]; rfl
  refine pure_of C.is_name rfl (Nat.le_trans (by decide) hd) (ws_if (tr_bop (trl_or (tr_not (tr_ev (ev_inst 10 is_str_str (ev_var 0 rfl)))) fun _ => trl_one (tr_cmp (ev_lens (ev_var 0 rfl) (Nat.lt_of_le_of_lt hw (by decide))) (ev_gint (G := G.dn) C.most) cm_gt))) (fun h => ws_ret ev_bool ?_) fun h => ws_nil (ws_ret (ev_all (Ev.to (ev_comp (caps := []) (Fv := fun c : Nat => V.str [c]) (ts := w) (fun c => some (V.bool (okS c))) (ev_var 0 rfl) rfl (Nat.le_trans hw (by decide)) (fun c hc => turn_all (ev_call (c_is_sign (G := G.dn) C.dn (dl hd)) (evl_cons (ev_var 0 rfl) evl_nil)))) (congrArg V.lst e))) ?_))
  · have h : (40 : Int) < w.length := by simpa using h
    show Res _ (.bool false) (.bool (okN w))
    unfold okN
    rw [decide_eq_false (by (first | lia | omega) : ¬ w.length ≤ 40)]; exact .id _
  · have h : ¬ (40 : Int) < w.length := by simpa using h
    show Res _ (.bool ((w.map okS).all id)) (.bool (okN w))
    unfold okN
    rw [decide_eq_true (by (first | lia | omega) : w.length ≤ 40), List.all_map]; exact .id _
end
theorem sign_okS (c : Int) : okS (signBy c) = true := by
  have : ∀ x ∈ signs, okS x = true := by decide +kernel
  refine this _ ?_
  unfold signBy
  have h : (c % 94).toNat < signs.length := by rw [signs_length]; (exact a546 )
  rw [List.getD_eq_getElem?_getD, List.getElem?_eq_getElem h]
  exact List.getElem_mem h
theorem wordGo_okS (c : Int) : ∀ (k : Nat) (n : Int) (w : List Nat), w.all okS = true → (wordGo c k n w).2.all okS = true
  | 0, _, _, h => h
  | k + 1, n, w, h => by
    show (_ ++ [_]).all okS = true
    rw [List.all_append, wordGo_okS c k n w h, List.all_cons, sign_okS]; rfl
theorem wordBy_okS (c : Int) (n : Nat) : (wordBy c n).all okS = true := wordGo_okS c n c [] rfl
theorem numGo_lt (c : Int) : ∀ k : Nat, 0 ≤ (numGo c k).2 ∧ (numGo c k).2 < ((10 ^ k : Nat) : Int)
  | 0 => ⟨Int.le_refl 0, show (0 : Int) < 1 by decide⟩
  | k + 1 => by
    obtain ⟨h1, h2⟩ := numGo_lt c k
    show 0 ≤ (numGo c k).2 * 10 + nxt (numGo c k).1 / 7 % 10 ∧ (numGo c k).2 * 10 + nxt (numGo c k).1 / 7 % 10 < ((10 ^ (k + 1) : Nat) : Int)
    rw [Nat.pow_succ]
    generalize (10 : Nat) ^ k = T at *
    (exact a575 h1 h2)
theorem numBy_lt (c : Int) : (numBy c).natAbs < 10 ^ 60 := by
  unfold numBy
  split
  · have : (c / 5 % 39 - 19).natAbs < 40 := by (exact a573 )
    exact Nat.lt_trans this (by decide +kernel)
  · have hk : (if c % 5 = 0 then 60 else (1 + c / 10 % 60).toNat) ≤ 60 := by split <;> (first | exact a477  | exact a478 )
    generalize (if c % 5 = 0 then 60 else (1 + c / 10 % 60).toNat) = k at hk
    obtain ⟨h1, h2⟩ := numGo_lt c k
    have h3 : 10 ^ k ≤ 10 ^ 60 := Nat.pow_le_pow_right (by decide) hk
    generalize (10 : Nat) ^ k = T at *
    generalize (10 : Nat) ^ 60 = U at *
    generalize (numGo c k).2 = x at *
    split <;> (first | exact a605 h1 h2 h3 | exact a607 h1 h2 h3)
/-- what a row of the law is -/
def RwOk (r : Row) : Prop := r.1.length ≤ 40 ∧ r.1.all okS = true ∧ r.2.natAbs < 10 ^ 60
theorem all_take {w : List Nat} {n : Nat} (h : w.all okS = true) : (w.take n).all okS = true := List.all_eq_true.mpr fun c hc => List.all_eq_true.mp h c (List.mem_of_mem_take hc)
end Mine

set_option autoImplicit false
set_option linter.all false
set_option maxRecDepth 100000
namespace Mine
open PySem PySem.W PyProof.Rows
theorem slice_hi {α : Type} (xs : List α) {i : Int} (h : 0 ≤ i) : slice xs none (some i) = xs.take i.toNat := by
  unfold slice clampI
  simp only [if_neg (Int.not_lt.mpr h), List.drop_zero]
  rw [Nat.min_def]; split
  · rfl
  · rw [List.take_of_length_le (Nat.le_refl _), List.take_of_length_le (by first | exact Nat.le_trans (by decide) hd | exact Nat.le_trans (by decide) hG | (exact a521 ‹_›) | (first | lia | omega))]
theorem slice_lo {α : Type} (xs : List α) {i : Int} (h : 0 ≤ i) : slice xs (some i) none = xs.drop i.toNat := by
  unfold slice clampI
  simp only [if_neg (Int.not_lt.mpr h), List.take_length]
  rw [Nat.min_def]; split
  · rfl
  · rw [List.drop_of_length_le (Nat.le_refl _), List.drop_of_length_le (by first | exact Nat.le_trans (by decide) hd | exact Nat.le_trans (by decide) hG | (exact a521 ‹_›) | (first | lia | omega))]

theorem slice_mid (s : List Nat) (k : Nat) : slice s (some (k : Int)) (some ((k : Int) + 1)) = (s.drop k).take 1 := by
  unfold slice clampI
  have h1 : ¬ ((k : Int) < 0) := by first | exact Nat.le_trans (by decide) hd | exact Nat.le_trans (by decide) hG | (exact a519 ) | (first | lia | omega)
  have h2 : ¬ ((k : Int) + 1 < 0) := by first | exact Nat.le_trans (by decide) hd | exact Nat.le_trans (by decide) hG | (exact a523 ) | (first | lia | omega)
  have h3 : ((k : Int) + 1).toNat = k + 1 := by first | exact Nat.le_trans (by decide) hd | exact Nat.le_trans (by decide) hG | (exact a524 h2) | (first | lia | omega)
  simp only [if_neg h1, if_neg h2, h3, Int.toNat_natCast]
  by_cases hk : k < s.length
  · rw [show min (k + 1) s.length = k + 1 by first | exact Nat.le_trans (by decide) hd | exact Nat.le_trans (by decide) hG | (exact a174 hk) | (first | lia | omega), show min k s.length = k by first | exact Nat.le_trans (by decide) hd | exact Nat.le_trans (by decide) hG | (exact a63 hk) | (first | lia | omega), List.drop_take]
    congr 1; (exact a81 )
  · rw [show min k s.length = s.length by first | exact Nat.le_trans (by decide) hd | exact Nat.le_trans (by decide) hG | (exact a525 hk) | (first | lia | omega)]
    rw [List.drop_eq_nil_of_le (by rw [List.length_take]; (exact a526 )), List.drop_eq_nil_of_le (by first | exact Nat.le_trans (by decide) hd | exact Nat.le_trans (by decide) hG | (exact a47 hk) | (first | lia | omega))]; rfl
theorem slice_take (s : List Nat) (k : Nat) : slice s none (some (k : Int)) = s.take k := by rw [slice_hi _ (by first | exact Nat.le_trans (by decide) hd | exact Nat.le_trans (by decide) hG | (exact a520 ) | (first | lia | omega)), Int.toNat_natCast]
theorem slice_drop (s : List Nat) (k : Nat) : slice s (some (k : Int)) none = s.drop k := by rw [slice_lo _ (by first | exact Nat.le_trans (by decide) hd | exact Nat.le_trans (by decide) hG | (exact a520 ) | (first | lia | omega)), Int.toNat_natCast]
theorem slice_drop1 (s : List Nat) (k : Nat) : slice s (some ((k : Int) + 1)) none = s.drop (k + 1) := by rw [slice_lo _ (by first | exact Nat.le_trans (by decide) hd | exact Nat.le_trans (by decide) hG | (exact a522 ) | (first | lia | omega))]; rfl
/-! ## the tree of sorted rows -/
def treeV : Nat → List Rw → V
  | 0, _ => .none
  | _ + 1, [] => .none
  | _ + 1, [r] => .tup [.str (lit "leaf"), .str r.1, .int r.2]
  | f + 1, a :: b :: rs => .tup [.str (lit "fork"), .str (a.1.take (shareN (a :: b :: rs))), .tup ((groups (shareN (a :: b :: rs)) (a :: b :: rs)).map fun g => .tup [.str g.1, treeV f (g.2.map (cutR (shareN (a :: b :: rs))))])]
structure Good (f : Nat) (rs : List Rw) : Prop where
  srt : Srt rs
  len : ∀ r ∈ rs, r.1.length < f
  num : rs.length ≤ 1000
  fuel : f ≤ 300
theorem Good.zero {rs : List Rw} (h : Good 0 rs) : rs = [] := by
  cases rs with
  | nil => rfl
  | cons a rs => exact absurd (h.len a (by simp)) (by first | exact Nat.le_trans (by decide) hd | exact Nat.le_trans (by decide) hG | (exact a527 ) | (first | lia | omega))
theorem treeV_nil (f : Nat) : treeV f [] = .none := by cases f <;> rfl
theorem groups_len (k : Nat) (rs : List Rw) : (groups k rs).length ≤ rs.length := by
  have h := groups_flat k rs
  have hm := groups_mem k rs
  generalize groups k rs = gs at h hm
  subst h
  induction gs with
  | nil => simp
  | cons g gs ih =>
    rw [List.flatMap_cons, List.length_append, List.length_cons]
    have h1 := ih fun x hx => hm x (by simp [hx])
    have h2 : 0 < g.2.length := List.length_pos_iff.mpr (hm g (by simp)).1
    (exact a528 h2 h1)
theorem group_len {k : Nat} {rs : List Rw} {g : List Nat × List Rw} (hg : g ∈ groups k rs) : g.2.length ≤ rs.length := by
  have h := groups_flat k rs
  have hs : g.2.Sublist rs := by
    rw [← h]
    generalize groups k rs = gs at hg
    induction gs with
    | nil => cases hg
    | cons q gs ih =>
      rw [List.flatMap_cons]
      rcases List.mem_cons.mp hg with rfl | hg
      · exact List.sublist_append_left ..
      · exact (ih hg).trans (List.sublist_append_right ..)
  exact hs.length_le
theorem Good.group {f : Nat} {rs : List Rw} (h : Good (f + 1) rs) (h2 : 2 ≤ rs.length) {g : List Nat × List Rw} (hg : g ∈ groups (shareN rs) rs) : Good f (g.2.map (cutR (shareN rs))) := by
  have hf : 1 ≤ f := by
    match rs, h2, h with
    | a :: b :: rs, _, h =>
      have := (List.pairwise_cons.mp h.srt).1 b (by simp)
      have hb := h.len b (by simp)
      cases e : b.1 with
      | nil => rw [e] at this; exact absurd this (List.not_lt_nil _)
      | cons x xs => rw [e] at hb; simp at hb; (exact a530 hb)
  refine ⟨group_srt (srt_pre h.srt) hg, fun r hr => ?_, ?_, by have := h.fuel; (exact a531 this)⟩
  · obtain ⟨q, hq, rfl⟩ := List.mem_map.mp hr
    have := h.len q (mem_flat hg hq)
    show (q.1.drop _).length < f
    rw [List.length_drop]; (exact a533 hf this)
  · rw [List.length_map]; have := group_len hg; have := h.num; (exact a534 ‹_› this)
theorem treeV_pl : ∀ (f : Nat) {rs : List Rw}, rs.length ≤ 1000 → Pl (3 * f + 1) (treeV f rs)
  | 0, _, _ => .none _
  | _ + 1, [], _ => .none _
  | f + 1, [r], _ => by
    refine Pl.mono (n := 2) (.tup _ (show 3 ≤ sizeLine by decide) ?_) (by first | exact Nat.le_trans (by decide) hd | exact Nat.le_trans (by decide) hG | (exact a529 ) | (first | lia | omega))
    simp; exact ⟨.str _ _, .str _ _, .int _ _⟩
  | f + 1, a :: b :: rs, h => by
    refine .tup (3 * f + 3) (show 3 ≤ sizeLine by decide) ?_
    simp only [List.mem_cons, List.not_mem_nil, or_false, forall_eq_or_imp, forall_eq]
    refine ⟨.str _ _, .str _ _, .tup (3 * f + 2) ?_ ?_⟩
    · rw [List.length_map]; have := groups_len (shareN (a :: b :: rs)) (a :: b :: rs); have : sizeLine = 16777216 := rfl; (exact a532 ‹_› this h)
    · intro x hx
      obtain ⟨g, hg, rfl⟩ := List.mem_map.mp hx
      refine .tup (3 * f + 1) (show 2 ≤ sizeLine by decide) ?_
      simp only [List.mem_cons, List.not_mem_nil, or_false, forall_eq_or_imp, forall_eq]
      refine ⟨.str _ _, treeV_pl f ?_⟩
      rw [List.length_map]; have := group_len hg; (exact a534 this h)
/-- where a group begins -/
def atG (gs : List (List Nat × List Rw)) (j : Nat) : Nat := ((gs.take j).flatMap (·.2)).length
theorem atG_succ {gs : List (List Nat × List Rw)} {j : Nat} {g : List Nat × List Rw} (h : gs[j]? = some g) : atG gs (j + 1) = atG gs j + g.2.length := by
  obtain ⟨hj, rfl⟩ := List.getElem?_eq_some_iff.mp h
  unfold atG; rw [List.take_succ_eq_append_getElem hj, List.flatMap_append, List.length_append, List.flatMap_singleton]
theorem atG_end (k : Nat) (rs : List Rw) : atG (groups k rs) (groups k rs).length = rs.length := by
  unfold atG; rw [List.take_length, groups_flat]
theorem atG_row {k : Nat} {rs : List Rw} {j : Nat} {g : List Nat × List Rw} (h : (groups k rs)[j]? = some g) : ∃ r, rs[atG (groups k rs) j]? = some r ∧ r ∈ rs ∧ sg k r = g.1 := by
  have hm := groups_mem k rs g (List.mem_of_getElem? h)
  have hf := groups_flat k rs
  obtain ⟨hj, e⟩ := List.getElem?_eq_some_iff.mp h
  obtain ⟨x, xs, hx⟩ := List.exists_cons_of_ne_nil hm.1
  have e2 : rs = ((groups k rs).take j).flatMap (·.2) ++ (g.2 ++ ((groups k rs).drop (j + 1)).flatMap (·.2)) := by
    conv => lhs; rw [← hf, ← List.take_append_drop j (groups k rs), List.drop_eq_getElem_cons hj, e]
    simp
  have hr : rs[atG (groups k rs) j]? = some x := by
    generalize groups k rs = gs at e2
    rw [e2]
    unfold atG
    rw [List.getElem?_append_right (Nat.le_refl _), Nat.sub_self, hx]; rfl
  exact ⟨x, hr, List.mem_of_getElem? hr, hm.2 x (by rw [hx]; simp)⟩

theorem treeV_ok : ∀ (f : Nat) (rs : List Rw), (treeV f rs).ok = true
  | 0, _ => rfl
  | _ + 1, [] => rfl
  | _ + 1, [_] => rfl
  | _ + 1, _ :: _ :: _ => rfl
theorem row_map (rs : List Rw) {i : Nat} {r : Rw} (h : rs[i]? = some r) : (rs.map RowV)[i]? = some (RowV r) := by rw [List.getElem?_map, h]; rfl
theorem filterMap_if {α β : Type} (p : α → Bool) (F : α → β) (l : List α) : (l.filterMap fun x => if p x then some (F x) else none) = (l.filter p).map F := by
  induction l with
  | nil => rfl
  | cons x l ih => rw [List.filterMap_cons, List.filter_cons]; cases p x <;> simp [ih]
section
variable {G : Gl} {K : Sx} {ρ : List V} {σ : Ow} {Q : KS} {ss : List Stmt}
/-- the loop that finds the shared beginning -/
theorem lcp_loop {i j k : Nat} {ni nj nk : Str} {a b : List Nat} {c0 c1 : Nat} {p0 p1 p2 p3 p4 p5 p6 p7 p8 p9 q0 q1 q2 q3 q4 q5 q6 q7 q8 q9 r0 r1 r2 r3 r4 r5 r6 : Pos} (ha : a.length ≤ 1000) (hb : b.length ≤ 1000)
    (hi : ∀ v, (ρ.set k v)[i]? = some (.str a)) (hj : ∀ v, (ρ.set k v)[j]? = some (.str b)) (hk : ∀ v, (ρ.set k v)[k]? = some v) (h : WS G K ss (ρ.set k (.int (lcp a b))) σ Q)
    (xi : nameOK K i ni = true := by decide +kernel) (xj : nameOK K j nj = true := by decide +kernel) (xk : nameOK K k nk = true := by decide +kernel) (hg : globOK K "len" = true := by decide +kernel) :
    WS G K (.Assign [.Name nk p0] (.Constant (.int 0) c0 p1) p2 :: .While (.BoolOp .And [.Compare (.Name nk p3) [.Lt] [.Call (.Name "len" p4) [.Name ni p5] [] p6] p7, .Compare (.Name nk p8) [.Lt] [.Call (.Name "len" p9) [.Name nj q0] [] q1] q2, .Compare (.Subscript (.Name ni q3) (.Name nk q4) q5) [.Eq] [.Subscript (.Name nj q6) (.Name nk q7) q8] q9] r0)
      [.Assign [.Name nk r1] (.BinOp (.Name nk r2) .Add (.Constant (.int 1) c1 r3) r4) r5] [] r6 :: ss) ρ σ Q := by
  refine ws_asg k ev_int (ws_while (fun n ρ' σ' => ∃ l : Nat, ρ' = ρ.set k (.int l) ∧ l ≤ lcp a b ∧ n = a.length - l ∧ σ' = σ) a.length ⟨0, rfl, Nat.zero_le _, rfl, rfl⟩ ?_) xk
  rintro n ρ' σ' ⟨l, rfl, hl, rfl, rfl⟩
  have hs := lcp_step a b l hl
  have vk : ∀ {p}, Ev G K (ρ.set k (.int l)) σ' (.Name nk p) (.int l) := ev_var k (hk _) rfl xk
  have vi : ∀ {p}, Ev G K (ρ.set k (.int l)) σ' (.Name ni p) (.str a) := ev_var i (hi _) rfl xi
  have vj : ∀ {p}, Ev G K (ρ.set k (.int l)) σ' (.Name nj p) (.str b) := ev_var j (hj _) rfl xj
  refine ⟨_, tr_bop (trl_and (tr_cmp vk (ev_lens vi (by first | exact Nat.le_trans (by decide) hd | exact Nat.le_trans (by decide) hG | (exact a535 ha) | (first | lia | omega)) rfl hg) cm_lt) fun h1 => trl_and (tr_cmp vk (ev_lens vj (by first | exact Nat.le_trans (by decide) hd | exact Nat.le_trans (by decide) hG | (exact a535 hb) | (first | lia | omega)) rfl hg) cm_lt) fun h2 => trl_one (tr_cmp (ev_idxs vi vk (n0 l) (of_decide_eq_true h1) (by first | exact Nat.le_trans (by decide) hd | exact Nat.le_trans (by decide) hG | (exact a535 ha) | (first | lia | omega))) (ev_idxs vj vk (n0 l) (of_decide_eq_true h2) (by first | exact Nat.le_trans (by decide) hd | exact Nat.le_trans (by decide) hG | (exact a535 hb) | (first | lia | omega))) cm_eqs)), fun ht => ?_, fun hf => ?_⟩
  · simp only [Bool.and_eq_true, decide_eq_true_eq, beq_iff_eq, List.cons.injEq, and_true, Int.toNat_natCast] at ht
    have hm := hs.mp ⟨by first | exact Nat.le_trans (by decide) hd | exact Nat.le_trans (by decide) hG | (exact a536 ht) | (first | lia | omega), by first | exact Nat.le_trans (by decide) hd | exact Nat.le_trans (by decide) hG | (exact a537 ht) | (first | lia | omega), ht.2.2⟩
    have := (lcp_le a b).1
    exact ws_asg k (ev_add vk ev_int) (ws_nil ⟨a.length - (l + 1), by first | exact Nat.le_trans (by decide) hd | exact Nat.le_trans (by decide) hG | (exact a538 ht) | (first | lia | omega), l + 1, by rw [List.set_set]; rfl, hm, rfl, rfl⟩) xk
  · have : l = lcp a b := by
      apply Classical.byContradiction
      intro hn
      have := hs.mpr (by first | exact Nat.le_trans (by decide) hd | exact Nat.le_trans (by decide) hG | (exact a1 hl hn) | (first | lia | omega))
      refine Bool.false_ne_true (hf.symm.trans ?_)
      simp only [Bool.and_eq_true, decide_eq_true_eq, beq_iff_eq, List.cons.injEq, and_true, Int.toNat_natCast]
      exact ⟨by first | exact Nat.le_trans (by decide) hd | exact Nat.le_trans (by decide) hG | (exact a539 this) | (first | lia | omega), by first | exact Nat.le_trans (by decide) hd | exact Nat.le_trans (by decide) hG | (exact a540 this) | (first | lia | omega), this.2.2⟩
    rw [this]; exact h
theorem ev_row0 {e : PySem.Expr} {r : Row} {c : Nat} {p p' : Pos} (h : Ev G K ρ σ e (RowV r)) : Ev G K ρ σ (.Subscript e (.Constant (.int 0) c p) p') (.str r.1) := ev_idxt h ev_int (by decide) (by decide) rfl
theorem ev_row1 {e : PySem.Expr} {r : Row} {c : Nat} {p p' : Pos} (h : Ev G K ρ σ e (RowV r)) : Ev G K ρ σ (.Subscript e (.Constant (.int 1) c p) p') (.int r.2) := ev_idxt h ev_int (by decide) (by decide) rfl
end
end Mine

set_option autoImplicit false
set_option linter.all false
set_option maxRecDepth 100000
namespace Mine
open PySem PySem.W PyProof.Rows
section
variable {G : Gl}
theorem c_common (FA : A_common G) {a b : List Nat} (ha : a.length ≤ 1000) (hb : b.length ≤ 1000) (hd : 0 < G.d) : Pure G "common" [.str a, .str b] (.str (a.take (lcp a b))) := by
  refine pure_of FA rfl hd (lcp_loop (i := 0) (j := 1) (k := 2) ha hb (fun _ => rfl) (fun _ => rfl) (fun _ => rfl) (ws_ret (ev_slc (ev_var 0 rfl) evo_none (evo_some (ev_var 2 rfl)) (by rw [szL]; (exact a417 ha))) ?_))
  rw [slice_take]; exact Res.id _
end
end Mine

set_option autoImplicit false
set_option linter.all false
set_option maxRecDepth 100000
namespace Mine
open PySem PySem.W PyProof.Rows
section
variable {G : Gl}
def pairR (t : List Nat) (r : Rw) : V := RowV (t ++ r.1, r.2)
theorem σ1_self (a : Addr) (xs : List V) : σ1 a xs a = some xs := Ow.set_self ..
theorem set_set (σ : Ow) (a : Addr) (xs ys : List V) : (σ.set a xs).set a ys = σ.set a ys := by funext b; unfold Ow.set; split <;> rfl
theorem c_gather : ∀ (f : Nat) {G : Gl} {rs : List Rw} {t : List Nat} {p : Addr} {acc : List V}, A_gather G → Good f rs → t.length + 301 * f ≤ 200000 → acc.length + rs.length ≤ 10000 → f + 1 ≤ G.d →
    Proc G "gather" [treeV f rs, .str t, .ref p] p acc (acc ++ rs.map (pairR t)) := by
  intro f
  have nil : ∀ {G : Gl} {t : List Nat} {p : Addr} {acc : List V}, A_gather G → 0 < G.d → Proc G "gather" [.none, .str t, .ref p] p acc (acc ++ [].map (pairR t)) := fun FA hd => by
    refine proc_of FA rfl hd (ws_if (tr_cmp (ev_var 0 rfl) ev_none cm_is_none) (fun _ => ws_retN ?_) nofun)
    rw [List.map_nil, List.append_nil]; exact σ1_self ..
  induction f with
  | zero =>
    intro G rs t p acc FA hg ht hl hd
    cases hg.zero
    exact nil FA (by first | exact Nat.le_trans (by decide) hd | exact Nat.le_trans (by decide) hG | (first | lia | omega) | (first | lia | omega))
  | succ f ih =>
    intro G rs t p acc FA hg ht hl hd
    match rs, hg, hl with
    | [], hg, hl => exact nil FA (by first | exact Nat.le_trans (by decide) hd | exact Nat.le_trans (by decide) hG | (exact a544 hd) | (first | lia | omega))
    | [r], hg, hl =>
      have hr := hg.len r (by simp)
      have hl' : acc.length + 1 ≤ 10000 := hl
      refine proc_of FA rfl (by first | exact Nat.le_trans (by decide) hd | exact Nat.le_trans (by decide) hG | (exact a544 hd) | (first | lia | omega)) (ws_if (tr_cmp (ev_var 0 rfl) ev_none (cm_is_nn rfl)) nofun fun _ => ws_nil (ws_if (tr_cmp (ev_idxt (ev_var 0 rfl) ev_int (by decide) (by decide) rfl) (ev_lit (lit "leaf")) cm_eqs) (fun _ => ?_) fun h => absurd h (by rw [beq_self_eq_true]; decide)))
      exact ws_append (ev_var 2 rfl) (σ1_self ..) (ev_tuple (evl_cons (ev_adds (ev_var 1 rfl) (ev_idxt (ev_var 0 rfl) ev_int (by decide) (by decide) rfl) (by rw [szL]; (exact a554 ht hr))) (evl_cons (ev_idxt (ev_var 0 rfl) ev_int (by decide) (by decide) rfl) evl_nil)) sz2) (by rw [szL]; (exact a555 hl')) (ws_retN (Ow.set_self ..))
    | a :: b :: rs, hg, hl =>
      have h2 : 2 ≤ (a :: b :: rs).length := by simp
      generalize hrs : a :: b :: rs = rs' at *
      have ha : a ∈ rs' := by rw [← hrs]; simp
      have hal := hg.len a ha
      have htv : treeV (f + 1) rs' = .tup [.str (lit "fork"), .str (a.1.take (shareN rs')), .tup ((groups (shareN rs') rs').map fun g => .tup [.str g.1, treeV f (g.2.map (cutR (shareN rs')))])] := by rw [← hrs]; rfl
      rw [htv]
      have P := srt_pre hg.srt
      have hfu := hg.fuel
      refine proc_of FA rfl (by first | exact Nat.le_trans (by decide) hd | exact Nat.le_trans (by decide) hG | (exact a544 hd) | (first | lia | omega)) (ws_if (tr_cmp (ev_var 0 rfl) ev_none (cm_is_nn rfl)) nofun fun _ => ws_nil (ws_if (tr_cmp (ev_idxt (ev_var 0 rfl) ev_int (by decide) (by decide) rfl) (ev_lit (lit "leaf")) cm_eqs) (fun h => absurd h (by decide +kernel)) fun _ => ws_nil ?_))
      refine ws_for (fun i ρ σ => σ = σ1 p (acc ++ (((groups (shareN rs') rs').take i).flatMap (·.2)).map (pairR t)) ∧ ∃ v w, ρ = [.tup [.str (lit "fork"), .str (a.1.take (shareN rs')), .tup ((groups (shareN rs') rs').map fun g => .tup [.str g.1, treeV f (g.2.map (cutR (shareN rs')))])], .str t, .ref p, v, w])
        (ev_idxt (ev_var 0 rfl) ev_int (by decide) (by decide) rfl) rfl ⟨?_, .unb, .unb, rfl⟩ ?_ ?_
      · rw [List.take_zero]; simp
      · rintro i ρ σ x hx ⟨rfl, v, w, rfl⟩
        rw [List.getElem?_map] at hx
        obtain ⟨g, hgi, rfl⟩ := Option.map_eq_some_iff.mp hx
        have hgm := List.mem_of_getElem? hgi
        have hm := groups_mem _ _ g hgm
        have hgl : g.1.length ≤ 1 := by
          obtain ⟨x, xs, hx⟩ := List.exists_cons_of_ne_nil hm.1
          rw [← hm.2 x (by rw [hx]; simp)]; unfold sg; rw [List.length_take]; (exact a561 )
        have e := atG_succ hgi
        have e2 : atG (groups (shareN rs') rs') (i + 1) ≤ rs'.length := by
          conv => rhs; rw [← groups_flat (shareN rs') rs', ← List.take_append_drop (i + 1) (groups (shareN rs') rs'), List.flatMap_append, List.length_append]
          exact Nat.le_add_right _ _
        unfold atG at e e2
        have htl : (a.1.take (shareN rs')).length ≤ 1000 := by rw [List.length_take]; (exact a562 hfu hal)
        refine ⟨_, asg_tup2 3 4, ws_proc (ih (G := G.dn) (t := t ++ a.1.take (shareN rs') ++ g.1) FA (hg.group h2 hgm) ?_ ?_ (by first | exact dl hd | exact dl0 hd | (show f + 1 ≤ G.d - 1; (exact a567 hd)))) (evl_cons (ev_var 4 rfl (treeV_ok _ _)) (evl_cons (ev_adds (ev_adds (ev_var 1 rfl) (ev_idxt (ev_var 0 rfl) ev_int (by decide) (by decide) rfl) ?_) (ev_var 3 rfl) ?_) (evl_cons (ev_var 2 rfl) evl_nil))) (σ1_self ..) (ws_nil ⟨?_, _, _, rfl⟩)⟩
        · have := hal; rw [List.length_append, List.length_append, List.length_take]; (exact a570 ht hfu hal hgl)
        · rw [List.length_append, List.length_map, List.length_map]; (exact a571 hl e e2)
        · rw [szL]; (exact a572 ht htl)
        · rw [szL, List.length_append]; (exact a576 ht htl hgl)
        · unfold σ1
          rw [set_set]
          obtain ⟨hi, e⟩ := List.getElem?_eq_some_iff.mp hgi
          rw [List.take_succ_eq_append_getElem hi, List.flatMap_append, List.flatMap_singleton, List.map_append, List.append_assoc, e, List.map_map]
          congr 3
          refine List.map_congr_left fun r hr => ?_
          have hra : r.1.take (shareN rs') = a.1.take (shareN rs') := P.pre r (mem_flat hgm hr) a ha
          have := parts (shareN rs') r.1
          have hsg := hm.2 r hr
          unfold sg at hsg
          rw [hsg, hra] at this
          show RowV _ = RowV _
          unfold cutR
          congr 2
          simp only [List.append_assoc, this]
      · rintro ρ σ ⟨rfl, v, w, rfl⟩
        refine ws_nil ?_
        rw [List.length_map, List.take_length, groups_flat]
        exact σ1_self ..
theorem c_names (FA : A_gather G) (FN : A_names G) {f : Nat} {rs : List Rw} (hg : Good f rs) (hd : f + 2 ≤ G.d) : Pure G "names" [treeV f rs] (.lst (rs.map RowV)) := by
  have hfu := hg.fuel
  have hn := hg.num
  exact pure_of FN rfl (by first | exact Nat.le_trans (by decide) hd | exact Nat.le_trans (by decide) hG | (exact a547 hd) | (first | lia | omega)) (ws_new 1 fun a _ => ws_proc (c_gather f (G := G.dn) (t := []) FA hg (by show 0 + _ ≤ _; (exact a549 hfu)) (by show 0 + _ ≤ _; (exact a551 hn)) (by first | exact dl hd | exact dl0 hd | (show f + 1 ≤ G.d - 1; (exact a552 hd)))) (evl_cons (ev_var 0 rfl (treeV_ok _ _)) (evl_cons (ev_lit []) (evl_cons (ev_var 1 rfl) evl_nil))) (Ow.set_self ..) (ws_ret (ev_var 1 rfl) (.frz (Ow.set_self ..))))
/-- the part of the fork that a group gives -/
def brV (f k : Nat) (g : List Nat × List Rw) : V := .tup [.str g.1, treeV f (g.2.map (cutR k))]
theorem one62 : 1 < 2 ^ 62 := by decide
/-- the rows of a group, cut -/
theorem same_rows {k : Nat} {rs : List Rw} (P : Pre k rs) {g : List Nat × List Rw} (hg : g ∈ groups k rs) :
    (rs.filterMap fun r => if slice r.1 (some (k : Int)) (some ((k : Int) + 1)) == g.1 then some (V.tup [.str (slice r.1 (some ((k : Int) + 1)) none), .int r.2]) else none) = (g.2.map (cutR k)).map RowV := by
  rw [← filter_group P hg, List.map_map, ← filterMap_if]
  congr 1; funext r
  rw [slice_mid, slice_drop1]
  show (if (r.1.drop k).take 1 == g.1 then _ else _) = if decide ((r.1.drop k).take 1 = g.1) then _ else _
  by_cases q : (r.1.drop k).take 1 = g.1
  · rw [if_pos (by simpa using q), if_pos (by simpa using q)]; rfl
  · rw [if_neg (by simpa using q), if_neg (by simpa using q)]
theorem c_tree : ∀ (f : Nat) {G : Gl} {rs : List Rw}, A_law_tree G → Good f rs → f + 1 ≤ G.d → Pure G "_law_tree" [.lst (rs.map RowV)] (treeV f rs) := by
  intro f
  have nil : ∀ (f : Nat) {G : Gl}, A_law_tree G → 0 < G.d → Pure G "_law_tree" [.lst []] (treeV f []) := fun f G FA hd => by
    rw [treeV_nil]
    exact pure_of FA rfl hd (ws_if (tr_cmp (ev_var 0 rfl) (ev_list evl_nil sz0) cm_eq_nil) (fun _ => ws_ret ev_none (.id _)) nofun)
  induction f with
  | zero => intro G rs FA hg hd; cases hg.zero; exact nil 0 FA (by first | exact Nat.le_trans (by decide) hd | exact Nat.le_trans (by decide) hG | (first | lia | omega) | (first | lia | omega))
  | succ f ih =>
    intro G rs FA hg hd
    match rs, hg with
    | [], hg => exact nil _ FA (by first | exact Nat.le_trans (by decide) hd | exact Nat.le_trans (by decide) hG | (exact a544 hd) | (first | lia | omega))
    | [r], hg =>
      have hr := hg.len r (by simp)
      refine pure_of FA rfl (by first | exact Nat.le_trans (by decide) hd | exact Nat.le_trans (by decide) hG | (exact a544 hd) | (first | lia | omega)) (ws_if (tr_cmp (ev_var 0 rfl) (ev_list evl_nil sz0) cm_eq_nil) nofun fun _ => ws_nil (ws_if (tr_cmp (ev_lenl (ev_var 0 rfl) one62) ev_int cm_eqi) (fun _ => ?_) nofun))
      exact ws_ret (ev_tuple (evl_cons (ev_lit (lit "leaf")) (evl_cons (ev_row0 (r := r) (ev_idxl (ev_var 0 rfl) ev_int (by decide) (by decide) rfl)) (evl_cons (ev_row1 (r := r) (ev_idxl (ev_var 0 rfl) ev_int (by decide) (by decide) rfl)) evl_nil))) sz3) (.id _)
    | a0 :: b0 :: rs, hg =>
      have h2 : 2 ≤ (a0 :: b0 :: rs).length := by simp
      obtain ⟨z0, hz0⟩ : ∃ z, (a0 :: b0 :: rs).getLast? = some z := ⟨_, List.getLast?_eq_some_getLast (by simp)⟩
      have hk : shareN (a0 :: b0 :: rs) = lcp a0.1 z0.1 := shareN_eq hz0
      have h0r : (a0 :: b0 :: rs)[0]? = some a0 := rfl
      have htv : treeV (f + 1) (a0 :: b0 :: rs) = .tup [.str (lit "fork"), .str (a0.1.take (shareN (a0 :: b0 :: rs))), .tup ((groups (shareN (a0 :: b0 :: rs)) (a0 :: b0 :: rs)).map (brV f (shareN (a0 :: b0 :: rs))))] := rfl
      generalize a0 :: b0 :: rs = rs' at *
      rw [htv]
      have ha0 : a0 ∈ rs' := List.mem_of_getElem? h0r
      have hal := hg.len a0 ha0
      have hz0m : z0 ∈ rs' := by rw [List.getLast?_eq_getElem?] at hz0; exact List.mem_of_getElem? hz0
      have hzl := hg.len z0 hz0m
      have hfu := hg.fuel
      have hn := hg.num
      have hlen : (rs'.map RowV).length = rs'.length := List.length_map ..
      have P := srt_pre hg.srt
      have hgg : ∀ g ∈ groups (shareN rs') rs', Good f (g.2.map (cutR (shareN rs'))) := fun g h => hg.group h2 h
      generalize hkk : shareN rs' = k at *
      have h62 : (rs'.map RowV).length < 2 ^ 62 := by rw [hlen]; (exact a535 hn)
      refine pure_of FA rfl (by first | exact Nat.le_trans (by decide) hd | exact Nat.le_trans (by decide) hG | (exact a544 hd) | (first | lia | omega)) (ws_if (tr_cmp (ev_var 0 rfl) (ev_list evl_nil sz0) cm_eq_nil) (fun h => ?_) fun _ => ws_nil (ws_if (tr_cmp (ev_lenl (ev_var 0 rfl) h62) ev_int cm_eqi) (fun h => ?_) fun _ => ws_nil ?_))
      · have h := List.isEmpty_iff.mp h; rw [List.map_eq_nil_iff] at h; rw [h] at h2; cases h2
      · have h := eq_of_beq h; (exact (a599 ‹_› h2 hlen).elim)
      refine ws_asg 1 (ev_row0 (ev_idxl (ev_var 0 rfl) ev_int (by decide) (by decide) (row_map _ h0r))) (ws_asg 2 (ev_row0 (ev_idxl_last (ev_var 0 rfl) (ev_neg ev_int) h62 (by rw [List.getLast?_map, hz0]; rfl))) (lcp_loop (i := 1) (j := 2) (k := 3) (a := a0.1) (b := z0.1) (by first | exact Nat.le_trans (by decide) hd | exact Nat.le_trans (by decide) hG | (exact a606 hfu hal) | (first | lia | omega)) (by first | exact Nat.le_trans (by decide) hd | exact Nat.le_trans (by decide) hG | (exact a606 hfu hzl) | (first | lia | omega)) (fun _ => rfl) (fun _ => rfl) (fun _ => rfl) ?_))
      rw [← hk]
      refine ws_new 4 fun c _ => ws_asg 5 ev_int ?_
      refine ws_while (fun n ρ σ => ∃ j, j ≤ (groups k rs').length ∧ n = (groups k rs').length - j ∧ σ = σ1 c (((groups k rs').take j).map (brV f k)) ∧ ∃ u v, ρ = [.lst (rs'.map RowV), .str a0.1, .str z0.1, .int k, .ref c, .int (atG (groups k rs') j), u, v]) _ ⟨0, by first | exact Nat.le_trans (by decide) hd | exact Nat.le_trans (by decide) hG | (exact a69 ) | (first | lia | omega), rfl, rfl, .unb, .unb, rfl⟩ ?_
      rintro n ρ σ ⟨j, hj, rfl, rfl, u, v, rfl⟩
      refine ⟨_, tr_cmp (ev_var 5 rfl) (ev_lenl (ev_var 0 rfl) h62) cm_lt, fun h => ?_, fun h => ?_⟩
      · have hlt := of_decide_eq_true h
        rw [hlen] at hlt
        have hjl : j < (groups k rs').length := by
          rcases Nat.lt_or_ge j (groups k rs').length with q | q
          · exact q
          · have : j = (groups k rs').length := by first | exact Nat.le_trans (by decide) hd | exact Nat.le_trans (by decide) hG | (exact a89 hj q) | (first | lia | omega)
            rw [this, atG_end] at hlt; (exact a621 hlt)
        obtain ⟨g, hgj⟩ : ∃ g, (groups k rs')[j]? = some g := ⟨_, List.getElem?_eq_getElem hjl⟩
        have hgm := List.mem_of_getElem? hgj
        obtain ⟨r, hr, hrm, hrs⟩ := atG_row hgj
        have hrl := hg.len r hrm
        have hgl := group_len hgm
        have hml : ((g.2.map (cutR k)).map RowV).length = g.2.length := by rw [List.length_map, List.length_map]
        refine ws_asg 6 (ev_slc (ev_row0 (ev_idxl (ev_var 0 rfl) (ev_var 5 rfl) (n0 _) (by first | exact Nat.le_trans (by decide) hd | exact Nat.le_trans (by decide) hG | (exact a622 h hn hlen) | (first | lia | omega)) (row_map _ hr))) (evo_some (ev_var 3 rfl)) (evo_some (ev_add (ev_var 3 rfl) ev_int)) (by rw [szL]; (exact a623 hfu hrl))) ?_
        rw [slice_mid, show (r.1.drop k).take 1 = g.1 from hrs]
        refine ws_asg_comp (caps := [3, 6]) (Fv := RowV) (ts := rs') 7 (fun r => if slice r.1 (some (k : Int)) (some ((k : Int) + 1)) == g.1 then some (V.tup [.str (slice r.1 (some ((k : Int) + 1)) none), .int r.2]) else none) (ev_var 0 rfl) rfl (by rw [szL]; (exact a417 hn)) (fun r hr => turn_if (tr_cmp (ev_slc (ev_row0 (r := r) (ev_var 2 rfl)) (evo_some (ev_var 0 rfl)) (evo_some (ev_add (ev_var 0 rfl) ev_int)) ?_) (ev_var 1 rfl) cm_eqs) fun _ => ev_tuple (evl_cons (ev_slc (ev_row0 (r := r) (ev_var 2 rfl)) (evo_some (ev_add (ev_var 0 rfl) ev_int)) evo_none ?_) (evl_cons (ev_row1 (r := r) (ev_var 2 rfl)) evl_nil)) sz2) ?_
        · have := hg.len r hr; rw [szL]; (exact a623 hfu this)
        · have := hg.len r hr; rw [szL]; (exact a623 hfu this)
        rw [same_rows P hgm]
        refine ws_append (ev_var 4 rfl) (σ1_self ..) (ev_tuple (evl_cons (ev_var 6 rfl) (evl_cons (ev_call (ih (G := G.dn) FA (hgg g hgm) (by first | exact dl hd | exact dl0 hd | (show f + 1 ≤ G.d - 1; (exact a567 hd)))) (evl_cons (ev_var 7 rfl) evl_nil)) evl_nil)) sz2) ?_ (ws_asg 5 (ev_add (ev_var 5 rfl) (ev_lenl (ev_var 7 rfl) (by rw [hml]; (exact a491 hgl hn)))) (ws_nil ⟨_, ?_, j + 1, hjl, rfl, ?_, .str g.1, .lst ((g.2.map (cutR k)).map RowV), ?_⟩))
        · rw [List.length_map, List.length_take, szL]; have := groups_len k rs'; (exact a634 this hn)
        · (exact a635 hjl)
        · unfold σ1
          rw [set_set]
          obtain ⟨hi, e⟩ := List.getElem?_eq_some_iff.mp hgj
          rw [List.take_succ_eq_append_getElem hi, e, List.map_append]; rfl
        · rw [atG_succ hgj, hml]; rfl
      · have hge := of_decide_eq_false h
        rw [hlen] at hge
        have hje : j = (groups k rs').length := by
          rcases Nat.lt_or_ge j (groups k rs').length with q | q
          · obtain ⟨r, hr, _⟩ := atG_row (List.getElem?_eq_getElem q)
            have := (List.getElem?_eq_some_iff.mp hr).1
            (first | lia | omega)
          · (exact a89 hj q)
        subst hje
        rw [List.take_length]
        refine ws_ret (ev_tuple (evl_cons (ev_lit (lit "fork")) (evl_cons (ev_slc (ev_var 1 rfl) evo_none (evo_some (ev_var 3 rfl)) (by rw [szL]; (exact a623 hfu hal))) (evl_cons (ev_tuplo (ev_var 4 rfl) (σ1_self ..) ?_) evl_nil))) sz3) ?_
        · rw [List.length_map, szL]; have := groups_len k rs'; (exact a492 this hn)
        · rw [slice_take]; exact .id _
end
end Mine

set_option autoImplicit false
set_option linter.all false
set_option maxRecDepth 100000
namespace Mine
open PySem PySem.W PyProof.Rows
/-! ## grouped, built -/
structure GOk (k : Nat) (ga : Addr) (bs : List ((List Nat × List Rw) × Addr)) (σ : Ow) : Prop where
  own : σ ga = some (bs.map fun x => .tup [.str x.1.1, .ref x.2])
  cells : ∀ x ∈ bs, σ x.2 = some ((x.1.2.map (cutR k)).map RowV) ∧ x.2 ≠ ga
  apart : bs.Pairwise fun x y => x.2 ≠ y.2
section
variable {k : Nat} {ga : Addr} {bs : List ((List Nat × List Rw) × Addr)} {σ : Ow}
theorem GOk.new {b : Addr} {s : List Nat} (D : GOk k ga bs σ) (hb : σ b = none) (hne : b ≠ ga) : GOk k ga (bs ++ [((s, []), b)]) ((σ.set b []).set ga ((bs.map fun x => .tup [.str x.1.1, .ref x.2]) ++ [.tup [.str s, .ref b]])) := by
  have nb : ∀ x ∈ bs, x.2 ≠ b := fun x hx e => by have := (D.cells x hx).1; rw [e, hb] at this; cases this
  refine ⟨by rw [Ow.set_self, List.map_append]; rfl, fun x hx => ?_, ?_⟩
  · rcases List.mem_append.mp hx with h | h
    · exact ⟨by rw [Ow.set_ne _ _ (D.cells x h).2, Ow.set_ne _ _ (nb x h)]; exact (D.cells x h).1, (D.cells x h).2⟩
    · cases List.mem_singleton.mp h; exact ⟨by rw [Ow.set_ne _ _ hne, Ow.set_self]; rfl, hne⟩
  · rw [List.pairwise_append]
    exact ⟨D.apart, List.pairwise_singleton .., fun x hx y hy => by cases List.mem_singleton.mp hy; exact nb x hx⟩
theorem GOk.put {s : List Nat} {g : List Rw} {b : Addr} {r : Rw} (D : GOk k ga (bs ++ [((s, g), b)]) σ) : GOk k ga (bs ++ [((s, g ++ [r]), b)]) (σ.set b ((g.map (cutR k)).map RowV ++ [RowV (cutR k r)])) := by
  have hb := D.cells ((s, g), b) (by simp)
  have ap := List.pairwise_append.mp D.apart
  refine ⟨by rw [Ow.set_ne _ _ hb.2.symm, D.own, List.map_append, List.map_append]; rfl, fun x hx => ?_, ?_⟩
  · rcases List.mem_append.mp hx with h | h
    · have hx := D.cells x (by simp [h])
      exact ⟨by rw [Ow.set_ne _ _ (ap.2.2 x h _ (List.mem_singleton.mpr rfl))]; exact hx.1, hx.2⟩
    · cases List.mem_singleton.mp h; exact ⟨by rw [Ow.set_self, List.map_append, List.map_append]; rfl, hb.2⟩
  · rw [List.pairwise_append]
    exact ⟨ap.1, List.pairwise_singleton .., fun x hx y hy => by cases List.mem_singleton.mp hy; exact ap.2.2 x hx ((s, g), b) (List.mem_singleton.mpr rfl)⟩
theorem GOk.res (D : GOk k ga bs σ) : Res σ (.ref ga) (.lst ((bs.map (·.1)).map fun g => .tup [.str g.1, .lst ((g.2.map (cutR k)).map RowV)])) := by
  refine .own D.own ?_
  have h := D.cells
  clear D
  induction bs with
  | nil => exact .nil
  | cons x bs ih => exact .cons (.tup (.cons (.id _) (.cons (.frz (h x (by simp)).1) .nil))) (ih fun y hy => h y (by simp [hy]))
end
def groupV (k : Nat) (g : List Nat × List Rw) : V := .tup [.str g.1, .lst ((g.2.map (cutR k)).map RowV)]
section
variable {G : Gl}
theorem gtail {K : Sx} {ρ : List V} {σ : Ow} {Q : KS} {ss : List Stmt} {k : Nat} {ga : Addr} {bs : List ((List Nat × List Rw) × Addr)} {s : List Nat} {g : List Rw} {b : Addr} {r : Rw} {i j l m : Nat} {ng nn ns nu : Str} {c c' c'' m' : Nat} {p0 p1 p2 p3 p4 p5 p6 p7 p8 p9 q0 q1 q2 q3 q4 q5 ap : Pos}
    (D : GOk k ga (bs ++ [((s, g), b)]) σ) (hg : g.length ≤ 10000) (hr : r.1.length ≤ 1000) (hi : ρ[i]? = some (.ref ga)) (hj : ρ[j]? = some (.str r.1)) (hl : ρ[l]? = some (.int k)) (hm : ρ[m]? = some (.int r.2)) (h : WS G K ss ρ (σ.set b ((g.map (cutR k)).map RowV ++ [RowV (cutR k r)])) Q)
    (xi : nameOK K i ng = true := by decide +kernel) (xj : nameOK K j nn = true := by decide +kernel) (xl : nameOK K l ns = true := by decide +kernel) (xm : nameOK K m nu = true := by decide +kernel) (hp : (ap.endLine == q4.line) = true := by rfl) :
    WS G K (.Expr (.Call (.Attribute (.Subscript (.Subscript (.Name ng p0) (.UnaryOp .USub (.Constant (.int 1) c p1) p2) p3) (.Constant (.int 1) c' p4) p5) "append" ap) [.Tuple [.Subscript (.Name nn p6) (.Slice (some (.BinOp (.Name ns p7) .Add (.Constant (.int 1) c'' p8) p9)) none none q0) q1, .Name nu q2] m' q3] [] q4) q5 :: ss) ρ σ Q := by
  refine ws_append (a := b) (ev_idxt (xs := [.str s, .ref b]) (ev_idxo_last (ev_var i hi rfl xi) (ev_neg ev_int) D.own (by rw [List.map_append]; exact List.getLast?_concat ..)) ev_int (by decide) (by decide) rfl) (D.cells ((s, g), b) (by simp)).1
    (ev_tuple (evl_cons (ev_slc (ev_var j hj rfl xj) (evo_some (ev_add (ev_var l hl rfl xl) ev_int)) evo_none (by rw [szL]; (exact a417 hr))) (evl_cons (ev_var m hm rfl xm) evl_nil)) sz2) (by rw [List.length_map, List.length_map, szL]; exact Nat.le_trans hg (by decide)) ?_ (by intros; rfl) hp
  rw [slice_drop1]; exact h
theorem c_grouped (FA : A_grouped G) {rs : List Rw} {k : Nat} (hk : k ≤ 10000) (hl : ∀ r ∈ rs, r.1.length ≤ 1000) (hn : rs.length ≤ 10000) (hd : 0 < G.d) : Pure G "grouped" [.lst (rs.map RowV), .int k] (.lst ((groups k rs).map (groupV k))) := by
  refine pure_of FA rfl hd (ws_new 2 fun ga _ => ?_)
  refine ws_for (fun i ρ σ => ∃ bs, GOk k ga bs σ ∧ bs.map (·.1) = groups k (rs.take i) ∧ ∃ u v w, ρ = [.lst (rs.map RowV), .int k, .ref ga, u, v, w]) (ev_var 0 rfl) rfl ⟨[], ⟨Ow.set_self .., nofun, .nil⟩, rfl, .unb, .unb, .unb, rfl⟩ ?_ ?_
  · rintro i ρ σ x hx ⟨bs, D, hmap, u, v, w, rfl⟩
    rw [List.getElem?_map] at hx
    obtain ⟨r, hr, rfl⟩ := Option.map_eq_some_iff.mp hx
    obtain ⟨hi, e⟩ := List.getElem?_eq_some_iff.mp hr
    have htk : rs.take (i + 1) = rs.take i ++ [r] := by rw [List.take_succ_eq_append_getElem hi, e]
    have hrl := hl r (List.mem_of_getElem? hr)
    have hbl : bs.length ≤ 10000 := by
      have := congrArg List.length hmap
      rw [List.length_map] at this
      have := groups_len k (rs.take i)
      rw [List.length_take] at this; (exact a588 ‹_› hn this)
    have hgl : ∀ s g b, ((s, g), b) ∈ bs → g.length ≤ 10000 := fun s g b h => by
      have : (s, g) ∈ groups k (rs.take i) := by rw [← hmap]; exact List.mem_map_of_mem (f := (·.1)) h
      have h3 : g.length ≤ (rs.take i).length := group_len this
      rw [List.length_take] at h3; (exact a589 h3 hn)
    have hlast : ∀ {bs : List ((List Nat × List Rw) × Addr)} {x : (List Nat × List Rw) × Addr}, ((bs ++ [x]).map fun x => V.tup [.str x.1.1, .ref x.2]).getLast? = some (.tup [.str x.1.1, .ref x.2]) := fun {bs x} => by rw [List.map_append]; exact List.getLast?_concat ..
    refine ⟨_, asg_tup2 3 4, ws_asg 5 (ev_slc (ev_var 3 rfl) (evo_some (ev_var 1 rfl)) (evo_some (ev_add (ev_var 1 rfl) ev_int)) (by rw [szL]; (exact a417 hrl))) ?_⟩
    rw [slice_mid]
    rcases last_cases bs with rfl | ⟨bs', ⟨⟨s, g⟩, b⟩, rfl⟩
    · refine ws_if (tr_bop (trl_or (b := true) (tr_cmp (ev_leno (ev_var 2 rfl) D.own (by decide)) ev_int cm_eqi) nofun (c := true))) (fun _ => ws_append_new (ev_var 2 rfl) D.own (ev_var 5 rfl) sz0 fun b hb hne => ws_nil ?_) nofun
      exact gtail (i := 2) (j := 3) (l := 1) (m := 4) (D.new hb hne) (by decide) (by first | exact Nat.le_trans (by decide) hd | exact Nat.le_trans (by decide) hG | (exact hrl) | (first | lia | omega)) rfl rfl rfl rfl (ws_nil ⟨_, (D.new hb hne).put, by rw [htk, groups_snoc, ← hmap]; rfl, _, _, _, rfl⟩)
    · have hg1 := hgl s g b (by simp)
      have hb1 : (bs' ++ [((s, g), b)]).length = bs'.length + 1 := by rw [List.length_append]; rfl
      refine ws_if (tr_bop (trl_or (tr_cmp (ev_leno (ev_var 2 rfl) D.own (by rw [List.length_map]; (exact a610 hbl))) ev_int cm_eqi) fun _ => trl_one (tr_cmp (ev_idxt (ev_idxo_last (ev_var 2 rfl) (ev_neg ev_int) D.own hlast) ev_int (by decide) (by decide) rfl) (ev_var 5 rfl) cm_nes))) (fun h => ws_append_new (ev_var 2 rfl) D.own (ev_var 5 rfl) (by rw [List.length_map, szL]; (exact a612 hbl)) fun b₂ hb hne => ws_nil ?_) (fun h => ws_nil ?_)
      · have e : s ≠ sg k r := by
          rintro rfl
          rw [List.length_map, hb1] at h
          simp [sg] at h
          (exact a613 h)
        exact gtail (i := 2) (j := 3) (l := 1) (m := 4) (D.new hb hne) (by decide) (by first | exact Nat.le_trans (by decide) hd | exact Nat.le_trans (by decide) hG | (exact hrl) | (first | lia | omega)) rfl rfl rfl rfl (ws_nil ⟨_, (D.new hb hne).put, by rw [htk, groups_snoc, ← hmap, List.map_append, List.map_append]; exact (addG_new k _ s g r e).symm, _, _, _, rfl⟩)
      · have e : s = sg k r := by
          have := (Bool.or_eq_false_iff.mp h).2
          have : s = (r.1.drop k).take 1 := by simpa using this
          exact this
        exact gtail (i := 2) (j := 3) (l := 1) (m := 4) D hg1 (by first | exact Nat.le_trans (by decide) hd | exact Nat.le_trans (by decide) hG | (exact hrl) | (first | lia | omega)) rfl rfl rfl rfl (ws_nil ⟨_, D.put, by rw [htk, groups_snoc, ← hmap, List.map_append, List.map_append]; exact (addG_same k _ s g r e).symm, _, _, _, rfl⟩)
  · rintro ρ σ ⟨bs, D, hmap, u, v, w, rfl⟩
    rw [List.length_map, List.take_length] at hmap
    refine ws_ret (ev_var 2 rfl) ?_
    have := D.res
    rw [hmap] at this
    exact this
theorem c_built : ∀ (f : Nat) {G : Gl} {rs : List Rw}, A_common G → A_grouped G → A_built G → Good f rs → f + 2 ≤ G.d → Pure G "built" [.lst (rs.map RowV)] (treeV f rs) := by
  intro f
  have nil : ∀ (f : Nat) {G : Gl}, A_built G → 0 < G.d → Pure G "built" [.lst []] (treeV f []) := fun f G FA hd => by
    rw [treeV_nil]
    exact pure_of FA rfl hd (ws_if (tr_cmp (ev_lenl (ev_var 0 rfl) (by decide)) ev_int cm_eqi) (fun _ => ws_ret ev_none (.id _)) nofun)
  induction f with
  | zero => intro G rs FC FG FA hg hd; cases hg.zero; exact nil 0 FA (by first | exact Nat.le_trans (by decide) hd | exact Nat.le_trans (by decide) hG | (first | lia | omega) | (first | lia | omega))
  | succ f ih =>
    intro G rs FC FG FA hg hd
    match rs, hg with
    | [], hg => exact nil _ FA (by first | exact Nat.le_trans (by decide) hd | exact Nat.le_trans (by decide) hG | (exact a620 hd) | (first | lia | omega))
    | [r], hg =>
      have hr := hg.len r (by simp)
      refine pure_of FA rfl (by first | exact Nat.le_trans (by decide) hd | exact Nat.le_trans (by decide) hG | (exact a620 hd) | (first | lia | omega)) (ws_if (tr_cmp (ev_lenl (ev_var 0 rfl) one62) ev_int cm_eqi) nofun fun _ => ws_nil (ws_if (tr_cmp (ev_lenl (ev_var 0 rfl) one62) ev_int cm_eqi) (fun _ => ?_) nofun))
      exact ws_ret (ev_tuple (evl_cons (ev_lit (lit "leaf")) (evl_cons (ev_row0 (r := r) (ev_idxl (ev_var 0 rfl) ev_int (by decide) (by decide) rfl)) (evl_cons (ev_row1 (r := r) (ev_idxl (ev_var 0 rfl) ev_int (by decide) (by decide) rfl)) evl_nil))) sz3) (.id _)
    | a0 :: b0 :: rs, hg =>
      have h2 : 2 ≤ (a0 :: b0 :: rs).length := by simp
      obtain ⟨z0, hz0⟩ : ∃ z, (a0 :: b0 :: rs).getLast? = some z := ⟨_, List.getLast?_eq_some_getLast (by simp)⟩
      have hk : shareN (a0 :: b0 :: rs) = lcp a0.1 z0.1 := shareN_eq hz0
      have h0r : (a0 :: b0 :: rs)[0]? = some a0 := rfl
      have htv : treeV (f + 1) (a0 :: b0 :: rs) = .tup [.str (lit "fork"), .str (a0.1.take (shareN (a0 :: b0 :: rs))), .tup ((groups (shareN (a0 :: b0 :: rs)) (a0 :: b0 :: rs)).map (brV f (shareN (a0 :: b0 :: rs))))] := rfl
      generalize a0 :: b0 :: rs = rs' at *
      rw [htv]
      have hal := hg.len a0 (List.mem_of_getElem? h0r)
      have hz0m : z0 ∈ rs' := by rw [List.getLast?_eq_getElem?] at hz0; exact List.mem_of_getElem? hz0
      have hzl := hg.len z0 hz0m
      have hfu := hg.fuel
      have hn := hg.num
      have hlen : (rs'.map RowV).length = rs'.length := List.length_map ..
      have hgg : ∀ g ∈ groups (shareN rs') rs', Good f (g.2.map (cutR (shareN rs'))) := fun g h => hg.group h2 h
      have hgl := groups_len (shareN rs') rs'
      generalize hkk : shareN rs' = k at *
      have hkle := lcp_le a0.1 z0.1
      have h62 : (rs'.map RowV).length < 2 ^ 62 := by rw [hlen]; (exact a535 hn)
      have hkl : (a0.1.take k).length = k := by rw [List.length_take]; (exact a628 hkle hk)
      refine pure_of FA rfl (by first | exact Nat.le_trans (by decide) hd | exact Nat.le_trans (by decide) hG | (exact a620 hd) | (first | lia | omega)) (ws_if (tr_cmp (ev_lenl (ev_var 0 rfl) h62) ev_int cm_eqi) (fun h => ?_) fun _ => ws_nil (ws_if (tr_cmp (ev_lenl (ev_var 0 rfl) h62) ev_int cm_eqi) (fun h => ?_) fun _ => ws_nil ?_))
      · have h := eq_of_beq h; (exact (a630 ‹_› h2 hlen).elim)
      · have h := eq_of_beq h; (exact (a599 ‹_› h2 hlen).elim)
      refine ws_asg 1 (ev_call (c_common (G := G.dn) (a := a0.1) (b := z0.1) FC (by first | exact Nat.le_trans (by decide) hd | exact Nat.le_trans (by decide) hG | (exact a606 hfu hal) | (first | lia | omega)) (by first | exact Nat.le_trans (by decide) hd | exact Nat.le_trans (by decide) hG | (exact a606 hfu hzl) | (first | lia | omega)) (by first | exact dl hd | exact dl0 hd | (show 0 < G.d - 1; (exact a636 hd)))) (evl_cons (ev_row0 (ev_idxl (ev_var 0 rfl) ev_int (by decide) (by decide) (row_map _ h0r))) (evl_cons (ev_row0 (ev_idxl_last (ev_var 0 rfl) (ev_neg ev_int) h62 (by rw [List.getLast?_map, hz0]; rfl))) evl_nil))) ?_
      rw [← hk]
      refine ws_new 2 fun c _ => ?_
      refine ws_for (fun i ρ σ => σ = σ1 c (((groups k rs').take i).map (brV f k)) ∧ ∃ u v, ρ = [.lst (rs'.map RowV), .str (a0.1.take k), .ref c, u, v]) (ev_call (c_grouped (G := G.dn) (k := k) FG (by first | exact Nat.le_trans (by decide) hd | exact Nat.le_trans (by decide) hG | (exact a641 hfu hkle hk hzl) | (first | lia | omega)) (fun r hr => by have := hg.len r hr; (exact a606 hfu this)) (by first | exact Nat.le_trans (by decide) hd | exact Nat.le_trans (by decide) hG | (exact a642 hn) | (first | lia | omega)) (by first | exact dl hd | exact dl0 hd | (show 0 < G.d - 1; (exact a636 hd)))) (evl_cons (ev_var 0 rfl) (evl_cons ((ev_lens (a := a0.1.take k) (ev_var 1 rfl) (by first | exact Nat.le_trans (by decide) hd | exact Nat.le_trans (by decide) hG | (exact a643 hfu hkle hkl hzl hk) | (first | lia | omega))).to (by rw [hkl])) evl_nil))) rfl ⟨rfl, .unb, .unb, rfl⟩ ?_ ?_
      · rintro i ρ σ x hx ⟨rfl, u, v, rfl⟩
        rw [List.getElem?_map] at hx
        obtain ⟨g, hgi, rfl⟩ := Option.map_eq_some_iff.mp hx
        have hgm := List.mem_of_getElem? hgi
        refine ⟨_, asg_tup2 3 4, ws_append (ev_var 2 rfl) (σ1_self ..) (ev_tuple (evl_cons (ev_var 3 rfl) (evl_cons (ev_call (ih (G := G.dn) FC FG FA (hgg g hgm) (by first | exact dl hd | exact dl0 hd | (show f + 2 ≤ G.d - 1; (exact a646 hd)))) (evl_cons (ev_var 4 rfl) evl_nil)) evl_nil)) sz2) (by rw [List.length_map, List.length_take, szL]; (exact a634 hgl hn)) (ws_nil ⟨?_, _, _, rfl⟩)⟩
        unfold σ1
        rw [set_set]
        obtain ⟨hi, e⟩ := List.getElem?_eq_some_iff.mp hgi
        rw [List.take_succ_eq_append_getElem hi, e, List.map_append]; rfl
      · rintro ρ σ ⟨rfl, u, v, rfl⟩
        rw [List.length_map, List.take_length]
        exact ws_ret (ev_tuple (evl_cons (ev_lit (lit "fork")) (evl_cons (ev_var 1 rfl) (evl_cons (ev_tuplo (ev_var 2 rfl) (σ1_self ..) (by rw [List.length_map, szL]; (exact a492 hgl hn))) evl_nil))) sz3) (.id _)
end
end Mine

set_option autoImplicit false
set_option linter.all false
set_option maxRecDepth 100000
namespace Mine
open PySem PySem.W PyProof.Rows
/-! ## rows: sorted, by script -/
theorem take_lt : ∀ {w : List Nat} {i j : Nat}, i < j → i < w.length → w.take i < w.take j
  | [], _, _, _, hi => by simp at hi
  | x :: w, 0, j + 1, _, _ => by simp
  | x :: w, i + 1, j + 1, h, hi => by
    rw [List.take_succ_cons, List.take_succ_cons, List.cons_lt_cons_iff]
    exact .inr ⟨rfl, take_lt (by first | exact Nat.le_trans (by decide) hd | exact Nat.le_trans (by decide) hG | (exact a548 h) | (first | lia | omega)) (by simpa using hi)⟩
theorem signs_nodup : signs.Nodup := by decide +kernel
theorem signBy_inj {c d : Int} (h : signBy c = signBy d) : c % 94 = d % 94 := by
  unfold signBy at h
  have hc : (c % 94).toNat < signs.length := by rw [signs_length]; (exact a546 )
  have hd : (d % 94).toNat < signs.length := by rw [signs_length]; (exact a546 )
  rw [List.getD_eq_getElem?_getD, List.getD_eq_getElem?_getD, List.getElem?_eq_getElem hc, List.getElem?_eq_getElem hd] at h
  have h : signs[(c % 94).toNat] = signs[(d % 94).toNat] := h
  have hp := List.pairwise_iff_getElem.mp signs_nodup
  rcases Nat.lt_trichotomy (c % 94).toNat (d % 94).toNat with q | q | q
  · exact absurd h (hp _ _ hc hd q)
  · (exact a553 q)
  · exact absurd h.symm (hp _ _ hd hc q)
theorem sorted_srt {rs rs' : List Row} (p : rs'.Perm rs) (s : rs'.Pairwise fun a b => rowLt b a = false) (d : Dst rs) : Srt rs' := by
  refine srt_of (d.perm p.symm) (s.imp fun {a b} h q => ?_)
  rw [Bool.eq_false_iff] at h
  exact h ((rowLt_iff b a).mpr (.inl q))
/-- what the law's rows are -/
structure Rows (rs : List Rw) : Prop where
  srt : Srt rs
  ok : ∀ r ∈ rs, RwOk r
  num : rs.length ≤ 150
theorem Rows.good {rs : List Rw} (h : Rows rs) {f : Nat} (hf : 41 ≤ f) (hf' : f ≤ 300) : Good f rs := ⟨h.srt, fun r hr => by have := (h.ok r hr).1; (exact a579 hf this), by have := h.num; (exact a438 this), hf'⟩
theorem dst_map {n : Nat} (f : Nat → Rw) (h : ∀ i j, i < j → j < n → (f i).1 ≠ (f j).1) : Dst ((List.range n).map f) := by
  unfold Dst
  rw [List.pairwise_map]
  refine List.Pairwise.imp_of_mem ?_ (List.pairwise_lt_range (n := n))
  intro i j hi hj hij
  exact h i j hij (by simpa using hj)
theorem srt_map {n : Nat} (f : Nat → Rw) (h : ∀ i j, i < j → j < n → (f i).1 < (f j).1) : Srt ((List.range n).map f) := by
  unfold Srt
  rw [List.pairwise_map]
  refine List.Pairwise.imp_of_mem ?_ (List.pairwise_lt_range (n := n))
  intro i j hi hj hij
  exact h i j hij (by simpa using hj)
theorem rows_sorted {rs rs' : List Rw} (p : rs'.Perm rs) (s : rs'.Pairwise fun a b => rowLt b a = false) (d : Dst rs) (hl : ∀ r ∈ rs, RwOk r) (hn : rs.length ≤ 150) : Rows rs' :=
  ⟨sorted_srt p s d, fun r hr => hl r (p.mem_iff.mp hr), by rw [p.length_eq]; exact hn⟩

def leR (a b : Rw) : Bool := !decide (b.1 < a.1)
def sortR (rs : List Rw) : List Rw := rs.mergeSort leR
theorem sortR_perm (rs : List Rw) : (sortR rs).Perm rs := List.mergeSort_perm ..
theorem sortR_srt {rs : List Rw} (d : Dst rs) : Srt (sortR rs) := by
  refine srt_of (d.perm (sortR_perm rs).symm) ((List.pairwise_mergeSort (le := leR) (fun a b c h1 h2 => ?_) (fun a b => ?_) rs).imp fun {a b} h => ?_)
  · have h1 : ¬ b.1 < a.1 := by simpa [leR] using h1
    have h2 : ¬ c.1 < b.1 := by simpa [leR] using h2
    have : ¬ c.1 < a.1 := fun h => (lt_tri a.1 b.1).elim (fun q => h2 (List.lt_trans h q)) fun q => q.elim (fun q => h2 (q ▸ h)) h1
    simpa [leR] using this
  · rcases lt_tri a.1 b.1 with q | q | q
    · simp [leR, List.lt_asymm q]
    · simp [leR, q, List.lt_irrefl]
    · simp [leR, List.lt_asymm q]
  · simpa [leR] using h
theorem sortR_rows {rs : List Rw} (d : Dst rs) (hl : ∀ r ∈ rs, RwOk r) (hn : rs.length ≤ 150) : Rows (sortR rs) := ⟨sortR_srt d, fun r hr => hl r ((sortR_perm rs).mem_iff.mp hr), by rw [(sortR_perm rs).length_eq]; exact hn⟩
section
variable {G : Gl}
theorem ev_sortR {K : Sx} {ρ : List V} {σ : Ow} {e : PySem.Expr} {p q : Pos} {rs : List Rw} (h1 : Ev G K ρ σ e (.lst (rs.map RowV))) (d : Dst rs) (hl : rs.length ≤ 10000) (hs : notStar e = true := by rfl) (hg : globOK K "sorted" = true := by decide +kernel) : Ev G K ρ σ (.Call (.Name "sorted" q) [e] [] p) (.lst ((sortR rs).map RowV)) :=
  ev_sorted h1 hl (fun rs' hp hs => by rw [srt_unique (sortR_srt d) (sorted_srt hp hs d) ((sortR_perm rs).trans hp.symm)]) hs hg
def countBy (c : Int) : Nat := if c / 9 % 6 = 1 then (c / 54 % 151).toNat else (c % 9).toNat
theorem countBy_le (c : Int) : countBy c ≤ 150 := by unfold countBy; split <;> (first | exact a582  | exact a583 )
theorem c_count_by (FA : A_law_count_by G) {c : Int} (hd : 0 < G.d) : Pure G "_law_count_by" [.int c] (.int (countBy c)) := by
  refine pure_of FA rfl hd (ws_if (tr_cmp (ev_mod (ev_fdiv (ev_var 0 rfl) ev_int (by decide) (by decide)) ev_int (by decide)) ev_int cm_eqi) (fun h => ?_) (fun h => ?_))
  · rw [show countBy c = (c / 54 % 151).toNat from if_pos (eq_of_beq h), Int.toNat_of_nonneg (emod_nn _ (by decide))]
    exact ws_ret (ev_mod (ev_fdiv (ev_var 0 rfl) ev_int (by decide) (by decide)) ev_int (by decide)) (.id _)
  · rw [show countBy c = (c % 9).toNat from if_neg (by simpa using h), Int.toNat_of_nonneg (emod_nn _ (by decide))]
    exact ws_nil (ws_ret (ev_mod (ev_var 0 rfl) ev_int (by decide)) (.id _))
theorem nat_mod (c m : Int) (hm : 0 < m) : ∃ n : Nat, c % m = n ∧ (n : Int) < m := ⟨(c % m).toNat, (Int.toNat_of_nonneg (emod_nn c hm)).symm, by rw [Int.toNat_of_nonneg (emod_nn c hm)]; exact Int.emod_lt_of_pos c hm⟩
structure CR (G : Gl) : Prop where
  cell : A_law_cell_at G
  sign : A_law_sign_by G
  word : A_law_word_by G
  number : A_law_number_by G
theorem map_rows {n : Nat} (f : Nat → Rw) : (List.range n).map (fun i => RowV (f i)) = ((List.range n).map f).map RowV := by rw [List.map_map]; rfl
theorem c_rows_by (C : CR G) (FA : A_law_rows_by G) {zs : List Int} (hz : zs.length ≤ 63) {fi : Int} (hf : 0 ≤ fi) {n : Nat} (hn : n ≤ 150) (hd : 4 ≤ G.d) : PureP G "_law_rows_by" [.scr (zs.map .int), .int fi, .int n] fun z => ∃ rs, Rows rs ∧ z = .lst (rs.map RowV) := by
  have d1 : 0 < G.dn.d := by first | exact dl hd | exact dl0 hd | (show 0 < G.d - 1; (first | lia | omega))
  have d2 : 1 < G.dn.d := by first | exact dl hd | exact dl0 hd | (show 1 < G.d - 1; (first | lia | omega))
  have cS : ∀ c, Pure G.dn "_law_sign_by" [.int c] (.str [signBy c]) := fun c => c_sign_by (G := G.dn) C.sign d1
  have cN : ∀ c, Pure G.dn "_law_number_by" [.int c] (.int (numBy c)) := fun c => c_number_by (G := G.dn) C.number d1
  have cW : ∀ c (n : Nat), n ≤ 1000 → Pure G.dn "_law_word_by" [.int c, .int n] (.str (wordBy c n)) := fun c n h => c_word_by (G := G.dn) C.word C.sign h d2
  refine purep_of FA rfl (by first | exact Nat.le_trans (by decide) hd | exact Nat.le_trans (by decide) hG | (first | lia | omega) | (first | lia | omega)) (ws_asg 3 (ev_call (c_cell_at (G := G.dn) C.cell hz hf d1) (evl_cons (ev_var 0 rfl) (evl_cons (ev_var 1 rfl) evl_nil))) ?_)
  generalize zs.getD fi.toNat 0 = cell
  refine ws_asg 4 (ev_mod (ev_var 3 rfl) ev_int (by decide)) (ws_asg 5 (ev_fdiv (ev_var 3 rfl) ev_int (by decide) (by decide)) ?_)
  generalize cell / 9 = more
  generalize cell % 9 = way
  refine ws_if (tr_cmp (ev_var 4 rfl) ev_int cm_eqi) (fun _ => ?_) fun _ => ws_nil ?_
  · -- the beginnings of one text
    have hwl := wordBy_len more 40
    have hwo := wordBy_okS more 40
    refine ws_asg 6 (ev_call (cW more 40 (by decide)) (evl_cons (ev_var 5 rfl) (evl_cons ev_int evl_nil))) ?_
    generalize wordBy more 40 = w at hwl hwo
    have e : (min (n : Int) 41).toNat = min n 41 := by first | exact Nat.le_trans (by decide) hd | exact Nat.le_trans (by decide) hG | (exact a600 ) | (first | lia | omega)
    refine ws_ret (ev_comp_rng (caps := [6, 5]) (fun i => RowV (slice w none (some (i : Int)), numBy (more + i))) (ev_range1 (ev_min2 (ev_var 2 rfl) ev_int) (by first | exact Nat.le_trans (by decide) hd | exact Nat.le_trans (by decide) hG | (exact a601 e) | (first | lia | omega)) (by first | exact Nat.le_trans (by decide) hd | exact Nat.le_trans (by decide) hG | (exact a602 e) | (first | lia | omega))) (by rw [szL]; (exact a604 e)) fun i hi => ev_tuple (evl_cons (ev_slc (ev_var 0 rfl) evo_none (evo_some (ev_var 2 rfl)) (by rw [szL]; (exact a609 hwl))) (evl_cons (ev_call (cN _) (evl_cons (ev_add (ev_var 1 rfl) (ev_var 2 rfl)) evl_nil)) evl_nil)) sz2) ⟨_, .id _, _, ?_, congrArg V.lst (map_rows _)⟩
    rw [e]
    refine ⟨srt_map _ fun i j hij hj => ?_, fun r hr => ?_, by rw [List.length_map, List.length_range]; (exact a614 e)⟩
    · show slice w _ _ < slice w _ _
      rw [slice_take, slice_take]; exact take_lt hij (by first | exact Nat.le_trans (by decide) hd | exact Nat.le_trans (by decide) hG | (exact a615 e hij hwl hj) | (first | lia | omega))
    · obtain ⟨i, _, rfl⟩ := List.mem_map.mp hr
      show RwOk (slice w none (some (i : Int)), numBy (more + i))
      rw [slice_take]
      exact ⟨by rw [List.length_take]; (exact a616 hwl), all_take hwo, numBy_lt _⟩
  obtain ⟨k, ek, hk⟩ := nat_mod more 6 (by decide)
  have hwl := wordBy_len more k
  have hwo := wordBy_okS more k
  refine ws_asg 6 (ev_call (cW more k (by first | exact Nat.le_trans (by decide) hd | exact Nat.le_trans (by decide) hG | (exact a619 ek) | (first | lia | omega))) (evl_cons (ev_var 5 rfl) (evl_cons ((ev_mod (ev_var 5 rfl) ev_int (by decide)).to (by rw [ek])) evl_nil))) ?_
  generalize wordBy more k = w at hwl hwo
  refine ws_if (tr_cmp (ev_var 4 rfl) ev_int cm_eqi) (fun _ => ?_) fun _ => ws_nil ?_
  · -- names that differ in two signs
    refine ws_asg 7 (ev_comp_rng (caps := [5]) (fun i => .str ([signBy (7 * ((i : Int) / 12) + more)] ++ [signBy (5 * ((i : Int) % 12) + more)])) (ev_range1 (ev_var 2 rfl) (nn62 n) (by first | exact Nat.le_trans (by decide) hd | exact Nat.le_trans (by decide) hG | (exact a624 hn) | (first | lia | omega))) (by rw [szL]; (exact a625 hn)) fun i hi => ev_adds (ev_call (cS _) (evl_cons (ev_add (ev_mul ev_int (ev_fdiv (ev_var 1 rfl) ev_int (by decide) (by decide)) (.of_left (by decide))) (ev_var 0 rfl)) evl_nil)) (ev_call (cS _) (evl_cons (ev_add (ev_mul ev_int (ev_mod (ev_var 1 rfl) ev_int (by decide)) (.of_left (by decide))) (ev_var 0 rfl)) evl_nil)) sz2) ?_ (by decide +kernel) (fun env h => swap_no (by decide +kernel) h)
    have e : (n : Int).toNat = n := Int.toNat_natCast n
    have hD : Dst ((List.range n).map fun (i : Nat) => ((w ++ ([signBy (7 * ((i : Int) / 12) + more)] ++ [signBy (5 * ((i : Int) % 12) + more)]), numBy (more + i)) : Rw)) := dst_map _ fun i j hij hj he => by
      have he := List.append_cancel_left he
      simp only [List.cons_append, List.nil_append, List.cons.injEq, and_true] at he
      have e1 := signBy_inj he.1
      have e2 := signBy_inj he.2
      (exact a629 e2 e1 ek hn hj hij)
    refine ws_ret (ev_sortR ((ev_comp_rng (caps := [6, 7, 5]) (fun i => RowV (w ++ ([signBy (7 * ((i : Int) / 12) + more)] ++ [signBy (5 * ((i : Int) % 12) + more)]), numBy (more + i))) (ev_range1 (ev_var 2 rfl) (nn62 n) (by first | exact Nat.le_trans (by decide) hd | exact Nat.le_trans (by decide) hG | (exact a624 hn) | (first | lia | omega))) (by rw [szL]; (exact a631 e hn)) fun i hi => ev_tuple (evl_cons (ev_adds (ev_var 0 rfl) (ev_idxl (ev_var 1 rfl) (ev_var 3 rfl) (n0 i) (by first | exact Nat.le_trans (by decide) hd | exact Nat.le_trans (by decide) hG | (exact a632 e hi hn) | (first | lia | omega)) (by rw [List.getElem?_map, Int.toNat_natCast, Int.toNat_natCast, List.getElem?_range (by rw [← e]; exact hi)]; rfl)) (by rw [szL]; simp; (exact a633 ek hwl))) (evl_cons (ev_call (cN _) (evl_cons (ev_add (ev_var 2 rfl) (ev_var 3 rfl)) evl_nil)) evl_nil)) sz2).to (by rw [e, map_rows])) hD (by simp; (exact a638 hn))) ⟨_, .id _, _, sortR_rows hD (fun r hr => ?_) (by simp; (exact hn)), rfl⟩
    obtain ⟨i, _, rfl⟩ := List.mem_map.mp hr
    exact ⟨by simp; (exact a640 ek hwl), by rw [List.all_append, hwo, List.all_append, List.all_cons, List.all_cons, sign_okS, sign_okS]; rfl, numBy_lt _⟩
  refine ws_if (tr_cmp (ev_var 4 rfl) ev_int cm_eqi) (fun _ => ?_) fun _ => ws_nil ?_
  · -- names that differ in one sign
    have e : (min (n : Int) 94).toNat = min n 94 := by first | exact Nat.le_trans (by decide) hd | exact Nat.le_trans (by decide) hG | (exact a644 ) | (first | lia | omega)
    have hD : Dst ((List.range (min n 94)).map fun (i : Nat) => ((w ++ [signBy (7 * (i : Int) + more)], numBy (more + i)) : Rw)) := dst_map _ fun i j hij hj he => by
      have he := List.append_cancel_left he
      simp only [List.cons.injEq, and_true] at he
      have e1 := signBy_inj he
      (exact a645 e1 e ek hj hij)
    refine ws_asg 8 (ev_min2 (ev_var 2 rfl) ev_int) (ws_ret (ev_sortR ((ev_comp_rng (caps := [6, 5]) (fun i => RowV (w ++ [signBy (7 * (i : Int) + more)], numBy (more + i))) (ev_range1 (ev_var 8 rfl) (by first | exact Nat.le_trans (by decide) hd | exact Nat.le_trans (by decide) hG | (exact a647 e) | (first | lia | omega)) (by first | exact Nat.le_trans (by decide) hd | exact Nat.le_trans (by decide) hG | (exact a648 e) | (first | lia | omega))) (by rw [szL]; (exact a649 e)) fun i hi => ev_tuple (evl_cons (ev_adds (ev_var 0 rfl) (ev_call (cS _) (evl_cons (ev_add (ev_mul ev_int (ev_var 2 rfl) (.of_left (by decide))) (ev_var 1 rfl)) evl_nil)) (by rw [szL]; simp; (exact a650 ek hwl))) (evl_cons (ev_call (cN _) (evl_cons (ev_add (ev_var 1 rfl) (ev_var 2 rfl)) evl_nil)) evl_nil)) sz2).to (by rw [e, map_rows])) hD (by simp; (exact a651 e))) ⟨_, .id _, _, sortR_rows hD (fun r hr => ?_) (by simp; (exact a652 e)), rfl⟩)
    obtain ⟨i, _, rfl⟩ := List.mem_map.mp hr
    exact ⟨by simp; (exact a653 ek hwl), by rw [List.all_append, hwo, List.all_cons, sign_okS]; rfl, numBy_lt _⟩
  refine ws_asg 9 (ev_list evl_nil sz0) (ws_for (fun i ρ σ => σ = σ0 ∧ ∃ rs, Dst rs ∧ (∀ r ∈ rs, RwOk r) ∧ rs.length ≤ i ∧ ∃ v3 v10 v11 v12 v13, ρ = [.scr (zs.map .int), .int fi, .int n, v3, .int way, .int more, .str w, .unb, .unb, .lst (rs.map RowV), v10, v11, v12, v13]) (ev_range1 (ev_min2 (ev_var 2 rfl) ev_int) (by first | exact Nat.le_trans (by decide) hd | exact Nat.le_trans (by decide) hG | (exact a654 ) | (first | lia | omega)) (by first | exact Nat.le_trans (by decide) hd | exact Nat.le_trans (by decide) hG | (exact a655 ) | (first | lia | omega))) (rng_items _) ⟨rfl, [], .nil, nofun, Nat.le_refl _, _, _, _, _, _, rfl⟩ ?_ ?_)
  · rintro i ρ σ x hx ⟨rfl, rs, hD, hl, hnum, v3, v10, v11, v12, v13, rfl⟩
    rw [List.getElem?_map] at hx
    obtain ⟨i', hi', rfl⟩ := Option.map_eq_some_iff.mp hx
    obtain ⟨hi, e⟩ := List.getElem?_eq_some_iff.mp hi'
    rw [List.getElem_range] at e
    subst e
    rw [List.length_range] at hi
    have hlen : (rs.map RowV).length = rs.length := List.length_map ..
    refine ⟨_, asg_name 10, ws_asg 3 (ev_add (ev_call (c_cell_at (G := G.dn) C.cell hz (k := fi + i) (by first | exact Nat.le_trans (by decide) hd | exact Nat.le_trans (by decide) hG | (exact a656 hf) | (first | lia | omega)) d1) (evl_cons (ev_var 0 rfl) (evl_cons (ev_add (ev_var 1 rfl) (ev_var 10 rfl)) evl_nil))) (ev_mul ev_int (ev_var 10 rfl) (.of_left (by decide)))) ?_⟩
    generalize zs.getD (fi + (i : Int)).toNat 0 + 104729 * (i : Int) = c
    obtain ⟨sz, hsz, esz⟩ : ∃ sz : Nat, sz ≤ 40 ∧ [V.int (c / 4 % 6), V.int 40][(if (c / 24 % 9 == 8) = true then (1 : Int) else 0).toNat]? = some (.int sz) := by
      split
      · exact ⟨40, by decide, rfl⟩
      · obtain ⟨m, em, hm⟩ := nat_mod (c / 4) 6 (by decide)
        exact ⟨m, by first | exact Nat.le_trans (by decide) hd | exact Nat.le_trans (by decide) hG | (exact a657 em) | (first | lia | omega), by rw [em]; rfl⟩
    refine ws_asg 11 (ev_idxl (ev_list (evl_cons (ev_mod (ev_fdiv (ev_var 3 rfl) ev_int (by decide) (by decide)) ev_int (by decide)) (evl_cons ev_int evl_nil)) sz2) (ev_int1 (ev_cmp (ev_mod (ev_fdiv (ev_var 3 rfl) ev_int (by decide) (by decide)) ev_int (by decide)) ev_int cm_eqi)) (by split <;> decide) (by split <;> decide) esz) (ws_asg 12 (ev_call (cW (c / 216) sz (by first | exact Nat.le_trans (by decide) hd | exact Nat.le_trans (by decide) hG | (exact a658 hsz) | (first | lia | omega))) (evl_cons (ev_fdiv (ev_var 3 rfl) ev_int (by decide) (by decide)) (evl_cons (ev_var 11 rfl) evl_nil))) ?_)
    have hw0 := wordBy_len (c / 216) sz
    have hwd0 := wordBy_okS (c / 216) sz
    generalize wordBy (c / 216) sz = wd at hw0 hwd0
    refine ws_ifm (fun ρ σ => σ = σ0 ∧ ∃ (wd : List Nat) (v : V), (wd.length ≤ 80 ∧ wd.all okS = true) ∧ ρ = [.scr (zs.map .int), .int fi, .int n, .int c, .int way, .int more, .str w, .unb, .unb, .lst (rs.map RowV), .int i, .int sz, .str wd, v])
      (tr_bop (trl_and (tr_cmp (ev_mod (ev_var 3 rfl) ev_int (by decide)) ev_int cm_gt) fun _ => trl_one (tr_cmp (ev_var 9 rfl) (ev_list evl_nil sz0) cm_ne_nil))) (fun h => ?_) (fun _ => ws_nil ⟨rfl, wd, _, ⟨by first | exact Nat.le_trans (by decide) hd | exact Nat.le_trans (by decide) hG | (exact a659 hw0 hsz) | (first | lia | omega), hwd0⟩, rfl⟩) ?_
    · have hne : rs ≠ [] := by
        rintro rfl
        simp at h
      have hp : 0 < rs.length := List.length_pos_iff.mpr hne
      obtain ⟨j, ej, hj⟩ := nat_mod (c / 216) rs.length (by first | exact Nat.le_trans (by decide) hd | exact Nat.le_trans (by decide) hG | (exact a545 hp) | (first | lia | omega))
      have hj' : j < rs.length := by first | exact Nat.le_trans (by decide) hd | exact Nat.le_trans (by decide) hG | (exact a405 hj) | (first | lia | omega)
      have hr : rs[j]? = some rs[j] := List.getElem?_eq_getElem hj'
      have hrk := hl _ (List.mem_of_getElem? hr)
      have hrl := hrk.1
      have hro := hrk.2.1
      refine ws_asg 13 (ev_row0 (r := rs[j]) (ev_idxl (i := j) (ev_var 9 rfl) ((ev_mod (ev_fdiv (ev_var 3 rfl) ev_int (by decide) (by decide)) (ev_lenl (ev_var 9 rfl) (by rw [hlen]; (exact a660 hnum hi))) (by rw [hlen]; (exact a545 hp))).to (by rw [hlen, ej])) (n0 j) (by first | exact Nat.le_trans (by decide) hd | exact Nat.le_trans (by decide) hG | (exact a661 hj ej hnum hi) | (first | lia | omega)) (row_map _ hr))) ?_
      generalize rs[j].1 = o at hrl hro
      clear hrk
      have hsl : (slice o none (some (if c % 2 = 0 then (o.length : Int) else o.length / 2))).length ≤ 40 := by
        rw [slice_hi _ (by split <;> (first | exact a520  | exact a662 )), List.length_take]; exact Nat.le_trans (Nat.min_le_right ..) hrl
      exact ws_asg 12 (ev_adds (ev_slc (ev_var 13 rfl) evo_none (evo_some (ev_idxl (ev_list (evl_cons (ev_lens (ev_var 13 rfl) (by first | exact Nat.le_trans (by decide) hd | exact Nat.le_trans (by decide) hG | (exact a663 hrl) | (first | lia | omega))) (evl_cons (ev_fdiv (ev_lens (ev_var 13 rfl) (by first | exact Nat.le_trans (by decide) hd | exact Nat.le_trans (by decide) hG | (exact a663 hrl) | (first | lia | omega))) ev_int (by decide) (by decide)) evl_nil)) sz2) (ev_mod (ev_var 3 rfl) ev_int (by decide)) (emod_nn c (by decide)) (emod_lt (by decide) (by decide)) (pick2 c _ _))) (by rw [szL]; (exact a664 hrl))) (ev_var 12 rfl) (by rw [szL]; (exact a665 hsl hw0 hsz))) (ws_nil ⟨rfl, _, _, ⟨by rw [List.length_append]; (exact a666 hsl hw0 hsz), by rw [List.all_append, hwd0, slice_hi _ (by split <;> (first | exact a520  | exact a662 )), all_take hro]; rfl⟩, rfl⟩)
    · rintro ρ σ ⟨rfl, wd, v, ⟨hwd, hwdo⟩, rfl⟩
      refine ws_asg 12 (ev_slc (ev_var 12 rfl) evo_none (evo_some ev_int) (by rw [szL]; (exact a667 hwd))) ?_
      have hwt : (slice wd none (some 40)).length ≤ 40 := by rw [slice_hi _ (by decide), List.length_take]; exact Nat.min_le_left ..
      have hwto : (slice wd none (some 40)).all okS = true := by rw [slice_hi _ (by decide)]; exact all_take hwdo
      generalize slice wd none (some 40) = wt at hwt hwto
      have hfl : (rs.filter fun r => !(r.1 == wt)).length ≤ rs.length := List.length_filter_le ..
      refine ws_asg 9 ((ev_addl (ev_comp (caps := [12]) (Fv := RowV) (ts := rs) (fun r => if !(r.1 == wt) then some (RowV r) else none) (ev_var 9 rfl) rfl (by rw [szL]; (exact a668 hnum hi)) fun r hr => turn_if (tr_cmp (ev_row0 (r := r) (ev_var 1 rfl)) (ev_var 0 rfl) cm_nes) fun _ => ev_var 1 rfl) (ev_list (evl_cons (ev_tuple (evl_cons (ev_var 12 rfl) (evl_cons (ev_call (cN _) (evl_cons (ev_var 3 rfl) evl_nil)) evl_nil)) sz2) evl_nil) sz1) ?_).to (?_ : _ = V.lst (((rs.filter fun r => !(r.1 == wt)) ++ [(wt, numBy c)]).map RowV))) (ws_nil ⟨rfl, _, ?_, ?_, ?_, _, _, _, _, _, rfl⟩)
      · rw [filterMap_if, List.length_map, szL]; exact Nat.le_trans (Nat.succ_le_succ (Nat.le_trans hfl (Nat.le_trans hnum (by first | exact Nat.le_trans (by decide) hd | exact Nat.le_trans (by decide) hG | (exact a669 hi) | (first | lia | omega) : i ≤ 150)))) (by decide)
      · rw [filterMap_if, List.map_append]; rfl
      · unfold Dst
        rw [List.pairwise_append]
        refine ⟨hD.filter _, List.pairwise_singleton .., fun a ha b hb => ?_⟩
        cases List.mem_singleton.mp hb
        have := (List.mem_filter.mp ha).2
        simpa using this
      · intro r hr
        rcases List.mem_append.mp hr with h | h
        · exact hl r (List.mem_filter.mp h).1
        · cases List.mem_singleton.mp h; exact ⟨hwt, hwto, numBy_lt _⟩
      · rw [List.length_append]; show _ + 1 ≤ _; (exact a670 hfl hnum)
  · rintro ρ σ ⟨rfl, rs, hD, hl, hnum, v3, v10, v11, v12, v13, rfl⟩
    rw [List.length_map, List.length_range] at hnum
    exact ws_ret (ev_sortR (ev_var 9 rfl) hD (by first | exact Nat.le_trans (by decide) hd | exact Nat.le_trans (by decide) hG | (exact a671 hnum) | (first | lia | omega))) ⟨_, .id _, _, sortR_rows hD hl (by first | exact Nat.le_trans (by decide) hd | exact Nat.le_trans (by decide) hG | (exact a672 hnum) | (first | lia | omega)), rfl⟩
end
end Mine

set_option autoImplicit false
set_option linter.all false
set_option maxRecDepth 100000
namespace Mine
open PySem PySem.W PyProof.Rows
/-! ## law 11: notes -/
structure C11 (G : Gl) : Prop where
  is_sign : A_is_sign G
  is_name : A_is_name G
  most : ∃ t, G.mg "MOST_SIGNS" = some (.int 40 t)
  blank : ∃ t, G.mg "BLANK" = some (.int 32 t)
  percent : ∃ t, G.mg "PERCENT" = some (.int 37 t)
  tilde : ∃ t, G.mg "TILDE" = some (.int 126 t)
  mfig : ∃ t, G.mg "MOST_FIGURES" = some (.int 60 t)
  figures : ∃ t, G.mg "FIGURES" = some (.str (txt [48, 49, 50, 51, 52, 53, 54, 55, 56, 57]) t)
  common : A_common G
  gather : A_gather G
  names : A_names G
  grouped : A_grouped G
  built : A_built G
  written : A_written G
  number_of : A_number_of G
  read : A_read G
  r : CR G
  whole : A_law_whole G
  rows_by : A_law_rows_by G
  count_by : A_law_count_by G
  tree : A_law_tree G
  alike : A_law_alike G
  refused : A_law_refused G
  no_figure : A_law_no_figure G
  spoilt : A_law_spoilt G
  x0 : ∃ C, XC G "NoNote" C
  x1 : ∃ C, XC G "TrailError" C
  x2 : ∃ C, XC G "NoName" C
  x3 : ∃ C, XC G "NotThere" C
  x4 : ∃ C, XC G "Taken" C
  x5 : ∃ C, XC G "TooLong" C
  x6 : ∃ C, XC G "TooMany" C
  x7 : ∃ C, XC G "NothingDone" C
  m1 : mroAt G.mg G.B "NoNote" "TrailError"
  m2 : mroAt G.mg G.B "NoNote" "NoName" false
  m3 : mroAt G.mg G.B "NoNote" "NotThere" false
  m4 : mroAt G.mg G.B "NoNote" "Taken" false
  m5 : mroAt G.mg G.B "NoNote" "TooLong" false
  m6 : mroAt G.mg G.B "NoNote" "TooMany" false
  m7 : mroAt G.mg G.B "NoNote" "NothingDone" false
  cls : ClsP G.mg G.B "NoNote"
  ve : G.mg "ValueError" = none ∧ G.mb "ValueError" = some (.type "ValueError")
def C11.dn {G : Gl} (C : C11 G) : C11 G.dn := ⟨C.1, C.2, C.3, C.4, C.5, C.6, C.7, C.8, C.9, C.10, C.11, C.12, C.13, C.14, C.15, C.16, ⟨C.r.1, C.r.2, C.r.3, C.r.4⟩, C.18, C.19, C.20, C.21, C.22, C.23, C.24, C.25, C.26, C.27, C.28, C.29, C.30, C.31, C.32, C.33, C.34, C.35, C.36, C.37, C.38, C.39, C.40, C.41, C.42⟩
theorem C11.cw {G : Gl} (C : C11 G) : CW G := ⟨C.1, C.2, C.3, C.4, C.5, C.6⟩
theorem Tr.to {G : Gl} {K : Sx} {ρ : List V} {σ : Ow} {e : PySem.Expr} {b c : Bool} (h : Tr G K ρ σ e b) (hb : b = c) : Tr G K ρ σ e c := hb ▸ h
def lineOf (r : Row) : List Nat := dec r.2 ++ [32] ++ r.1
theorem line_len {r : Row} (h : RwOk r) : (lineOf r).length ≤ 102 := by
  unfold lineOf
  rw [List.length_append, List.length_append]
  have := dec_len h.2.2
  have := h.1
  show _ + 1 + _ ≤ _
  (exact a407 ‹_› this)
theorem okS_no {c : Nat} {w : List Nat} (h : w.all okS = true) (hc : okS c = false) : c ∉ w := fun m => by rw [List.all_eq_true.mp h c m] at hc; cases hc
theorem line_10 {r : Row} (h : RwOk r) : 10 ∉ lineOf r := by
  unfold lineOf
  intro m
  rcases List.mem_append.mp m with m | m
  · rcases List.mem_append.mp m with m | m
    · exact dec_no (.inl (by decide)) (by decide) m
    · exact absurd (List.mem_singleton.mp m) (by decide)
  · exact okS_no h.2.1 (by decide) m
section
variable {G : Gl}
theorem ev_line {K : Sx} {ρ : List V} {σ : Ow} {e₁ e₂ : PySem.Expr} {r : Row} {a : Str} {c₁ c₂ c₃ : Nat} {p₁ p₂ p₃ p₄ p₅ p₆ p₇ p₈ p₉ : Pos} (h1 : Ev G K ρ σ e₁ (RowV r)) (h2 : Ev G K ρ σ e₂ (RowV r)) (h : RwOk r) (ha : a.cps.toList = [32] := by decide +kernel) (hg : globOK K "str" = true := by decide +kernel) :
    Ev G K ρ σ (.BinOp (.BinOp (.Call (.Name "str" p₁) [.Subscript e₁ (.Constant (.int 1) c₁ p₂) p₃] [] p₄) .Add (.Constant (.str a) c₂ p₅) p₆) .Add (.Subscript e₂ (.Constant (.int 0) c₃ p₇) p₈) p₉) (.str (lineOf r)) := by
  have hl := dec_len h.2.2
  have hn := h.1
  refine ev_adds (ev_adds (ev_strI (ev_row1 h1) (Nat.lt_trans h.2.2 (by decide +kernel)) rfl hg) (ev_lit [32] ha) ?_) (ev_row0 h2) ?_
  · show _ + 1 ≤ _; rw [szL]; (exact a416 hl)
  · rw [List.length_append, szL]; show _ + 1 + _ ≤ _; (exact a418 hl hn)
theorem fm_map {α : Type} (f : α → List Nat) (l : List α) : (l.filterMap fun r => some (V.str (f r))) = (l.map f).map .str := by rw [List.filterMap_eq_map', List.map_map]; rfl
theorem c_written (C : C11 G) {f : Nat} {rs : List Rw} (hg : Good f rs) (hr : ∀ r ∈ rs, RwOk r) (hd : f + 3 ≤ G.d) : Pure G "written" [treeV f rs] (.str (joinL [] (rs.map fun r => lineOf r ++ [10]))) := by
  have hn := hg.num
  refine pure_of C.written rfl (by (exact a464 hd)) (ws_ret (ev_joinl (ts := rs.map fun r => lineOf r ++ [10]) (ev_lit []) (Ev.to (ev_comp (caps := []) (Fv := RowV) (ts := rs) (fun r => some (.str (lineOf r ++ [10]))) (ev_call (c_names (G := G.dn) C.gather C.names hg (by show f + 2 ≤ G.d - 1; (exact a467 hd))) (evl_cons (ev_var 0 rfl (treeV_ok f rs)) evl_nil)) rfl (by rw [szL]; (exact a417 hn)) (fun r hr' => turn_all (ev_adds (ev_line (ev_var 0 rfl) (ev_var 0 rfl) (hr r hr')) (ev_lit [10]) ?_))) (congrArg V.lst (fm_map _ _))) (by rw [List.length_map]; (exact hn)) (fun t ht => ?_) (by decide)) (.id _))
  · have := line_len (hr r hr')
    show _ + 1 ≤ _; rw [szL]; (exact a470 this)
  · obtain ⟨r, hr', rfl⟩ := List.mem_map.mp ht
    have := line_len (hr r hr')
    rw [List.length_append]; show _ + 1 ≤ _; (exact a471 this)
/-! ## number_of -/
theorem figs_len (w : List Nat) : (figs w).length ≤ w.length := by
  unfold figs
  split
  · rw [List.length_drop]; (exact a18 )
  · exact Nat.le_refl _
theorem e_figs {K : Sx} {ρ : List V} {σ : Ow} {w : List Nat} {e₁ e₂ e₃ : PySem.Expr} {a : Str} {c₁ c₂ : Nat} {ap p₁ p₂ p₃ p₄ p₅ p₆ : Pos} (h1 : Ev G K ρ σ e₁ (.str w)) (h2 : Ev G K ρ σ e₂ (.str w)) (h3 : Ev G K ρ σ e₃ (.str w)) (hw : w.length ≤ 1000) (ha : a.cps.toList = [45] := by decide +kernel) (hn : ∀ n env t, attributeBase e₂ n env t = t := by intros; rfl) (hl : (ap.endLine == p₂.line) = true := by rfl) :
    Ev G K ρ σ (.IfExp (.Call (.Attribute e₂ "startswith" ap) [.Constant (.str a) c₁ p₁] [] p₂) (.Subscript e₁ (.Slice (some (.Constant (.int 1) c₂ p₃)) none none p₄) p₅) e₃ p₆) (.str (figs w)) := by
  refine ev_ifx (tr_ev (ev_starts h2 (ev_lit [45] ha) hn hl)) (fun h => (ev_slc h1 (evo_some ev_int) evo_none (by rw [szL]; (exact a417 hw))).to ?_) (fun h => h3.to ?_)
  · unfold figs; rw [if_pos h, slice_lo _ (by decide)]; rfl
  · unfold figs; rw [if_neg (by rw [h]; decide)]
def ifE : List Stmt → PySem.Expr
  | .If e _ _ _ :: _ => e
  | _ => .Constant .none 0 default
theorem e_okF {ρ : List V} {σ : Ow} {w : List Nat} (C : C11 G) (hρ : ρ[1]? = some (.str (figs w))) (hw : w.length ≤ 1000) : Tr G K_number_of ρ σ (ifE B_number_of.tail) (!okF w) := by
  have hl := figs_len w
  have e : ((figs w).filterMap fun c => some (V.bool (isFig c))) = ((figs w).map isFig).map .bool := by rw [List.filterMap_eq_map', List.map_map]; rfl
  refine Tr.to (tr_bop (trl_or (tr_not (tr_chain ev_int (ev_lens (ev_var 1 hρ) (by (exact a491 hl hw))) (ev_gint C.mfig) cm_le cm_le)) fun _ => trl_one (tr_not (tr_ev (ev_all (Ev.to (ev_comp (caps := []) (Fv := fun c : Nat => V.str [c]) (ts := figs w) (fun c => some (V.bool (isFig c))) (ev_var 1 hρ) rfl (by rw [szL]; (exact a492 hl hw)) fun c hc => turn_all (ev_cmp (ev_var 0 rfl) (ev_gstr C.figures) cm_ins)) (congrArg V.lst e))))))) ?_
  unfold okF
  rw [List.all_map]
  exact (Bool.not_and _ _).symm
theorem one_eq (x : Nat) : ([x] == [48]) = (x == 48) := by
  show ((x == 48) && ([] == ([] : List Nat))) = _
  exact Bool.and_true _
theorem okF_pos {w : List Nat} (h : okF w = true) : 1 ≤ (figs w).length := by
  unfold okF at h
  rw [Bool.and_eq_true, Bool.and_eq_true, decide_eq_true_eq] at h
  (first | lia | omega)
theorem c_number_of (C : C11 G) {i : Int} (h : i.natAbs < 10 ^ 60) (hd : 0 < G.d) : Pure G "number_of" [.str (dec i)] (.int i) := by
  have hl := dec_len h
  have hf := figs_dec i
  have hp := dg_pos i.natAbs
  have hl2 := dg_len h
  refine pure_of C.number_of rfl hd (ws_asg 1 (e_figs (w := dec i) (ev_var 0 rfl) (ev_var 0 rfl) (ev_var 0 rfl) (by (exact a496 hl))) ?_)
  refine ws_if (e_okF (G := G.dn) C.dn (w := dec i) rfl (by (exact a496 hl))) (fun h' => by rw [okF_dec h] at h'; cases h') fun _ => ws_nil ?_
  rw [hf]
  refine ws_if (b := false) (Tr.to (tr_bop (trl_and (tr_cmp (ev_idxs (ev_var 1 rfl) ev_int (by decide) (by (exact a459 hp)) (by (exact a505 hl2))) (ev_lit [48]) cm_eqs) fun _ => trl_one (tr_cmp (ev_var 0 rfl) (ev_lit [48]) cm_nes))) ?_) nofun fun _ => ws_nil ?_
  · rw [one_eq]; exact good_dec h
  refine ws_asg 2 (ev_intT (ev_var 1 rfl) (dg_reads h) (by (exact a512 hl2))) (ws_ret (ev_ifx (tr_ev (ev_starts (ev_var 0 rfl) (ev_lit [45]))) (fun hb => (ev_sub ev_int (ev_var 2 rfl)).to ?_) (fun hb => (ev_var 2 rfl).to ?_)) (.id _))
  · rw [pre_dec, decide_eq_true_eq] at hb
    congr 1; (exact a514 hb)
  · rw [pre_dec, decide_eq_false_iff_not] at hb
    congr 1; (exact a515 hb)
theorem z_number_of (C : C11 G) {X : Addr} (hX : XC G "NoNote" X) {w : List Nat} (hw : w.length ≤ 1000) (h : badNum w = true) (hd : 0 < G.d) : Rz G "number_of" [.str w] X := by
  have hl := figs_len w
  refine rz_of C.number_of rfl hd (wr_seq (ws_asg 1 (e_figs (w := w) (ev_var 0 rfl) (ev_var 0 rfl) (ev_var 0 rfl) hw) (ws_nil ⟨rfl, ?_⟩)))
  have hT := e_okF (G := G.dn) (σ := σ0) C.dn (ρ := [.str w, .str (figs w), .unb]) (w := w) rfl hw
  unfold badNum at h
  cases ho : okF w
  · rw [ho] at hT
    exact wr_if hT (fun _ => wr_raise hX) nofun
  · rw [ho] at hT h
    have hp := okF_pos ho
    refine wr_seq (ws_if hT nofun fun _ => ws_nil (ws_nil ⟨rfl, wr_if (b := true) (Tr.to (tr_bop (trl_and (tr_cmp (ev_idxs (ev_var 1 rfl) ev_int (by decide) (by (exact a459 hp)) (by (exact a491 hl hw))) (ev_lit [48]) cm_eqs) fun _ => trl_one (tr_cmp (ev_var 0 rfl) (ev_lit [48]) cm_nes))) ?_) (fun _ => wr_raise hX) nofun⟩))
    rw [one_eq]; exact h
end
end Mine

set_option autoImplicit false
set_option linter.all false
set_option maxRecDepth 100000
namespace Mine
open PySem PySem.W PyProof.Rows
/-! ## read -/
theorem TnL.map {α : Type} (f : α → V) : ∀ {l : List α}, (∀ x ∈ l, Tn (f x)) → TnL (l.map f)
  | [], _ => .nil
  | x :: l, h => .cons (h x (List.mem_cons_self ..)) (TnL.map f fun y hy => h y (List.mem_cons_of_mem _ hy))
theorem treeV_tn : ∀ (f : Nat) (rs : List Rw), Tn (treeV f rs)
  | 0, _ => .none
  | _ + 1, [] => .none
  | _ + 1, [r] => .tup (.cons (.str _) (.cons (.str _) (.cons (.int _) .nil)))
  | f + 1, a :: b :: rs => .tup (.cons (.str _) (.cons (.str _) (.cons (.tup (TnL.map _ fun g _ => .tup (.cons (.str _) (.cons (treeV_tn f _) .nil)))) .nil)))
theorem joinL_len {c n : Nat} : ∀ {ts : List (List Nat)}, (∀ t ∈ ts, t.length ≤ n) → (joinL [c] ts).length ≤ ts.length * (n + 1)
  | [], _ => Nat.zero_le _
  | [x], h => by
    have := h x (by simp)
    show (x ++ []).length ≤ _
    rw [List.append_nil, List.length_singleton]; (exact a412 this)
  | x :: y :: r, h => by
    have h1 := h x (by simp)
    have h2 := joinL_len (c := c) (ts := y :: r) fun t ht => h t (List.mem_cons_of_mem _ ht)
    rw [joinL_cons, List.length_append, List.length_append, List.length_cons (a := x), Nat.succ_mul]
    show _ + (1 + _) ≤ _
    (exact a414 h1 h2)
/-- lines that a text may have -/
structure Sz (ts : List (List Nat)) : Prop where
  num : ts.length ≤ 900
  len : ∀ t ∈ ts, t.length ≤ 1000
  free : ∀ t ∈ ts, 10 ∉ t
theorem Sz.snoc {ts : List (List Nat)} {t : List Nat} (h : Sz ts) (hl : t.length ≤ 1000) (hf : 10 ∉ t) : ts ++ [t] ≠ [] ∧ (∀ x ∈ ts ++ [t], 10 ∉ x) ∧ (joinL [10] (ts ++ [t])).length ≤ 10000000 ∧ (ts ++ [t]).length ≤ 901 := by
  have hn := h.num
  have hx : ∀ {x}, x ∈ ts ++ [t] → x ∈ ts ∨ x = t := fun hx => (List.mem_append.mp hx).imp id List.mem_singleton.mp
  have h1 : (ts ++ [t]).length ≤ 901 := by rw [List.length_append]; show _ + 1 ≤ _; (exact a419 hn)
  have h2 := joinL_len (c := 10) (n := 1000) (ts := ts ++ [t]) fun x m => (hx m).elim (h.len x) fun e => e ▸ hl
  have h3 : (ts ++ [t]).length * 1001 ≤ 901 * 1001 := Nat.mul_le_mul_right _ h1
  exact ⟨by simp, fun x m => (hx m).elim (h.free x) fun e => e ▸ hf, by (exact a421 h2 h1), h1⟩
theorem slice_init {α : Type} (xs : List α) (y : α) : slice (xs ++ [y]) none (some (-1)) = xs := by
  have hl : (xs ++ [y]).length = xs.length + 1 := by rw [List.length_append]; rfl
  unfold slice clampI
  rw [hl]
  show ((xs ++ [y]).take (-1 + ((xs.length + 1 : Nat) : Int)).toNat).drop 0 = xs
  rw [show (-1 + ((xs.length + 1 : Nat) : Int)).toNat = xs.length by (exact a420 ), List.take_left, List.drop_zero]
def RB : List Stmt := match B_read with
  | _ :: _ :: _ :: .For _ _ b _ _ :: _ => b
  | _ => []
theorem part_line (r : Row) : Part (lineOf r) (dec r.2) [32] r.1 := .inr ⟨by unfold lineOf; rw [List.append_assoc]; rfl, dec_no (.inl (by decide)) (by decide), rfl⟩
section
variable {G : Gl}
theorem read_turn (C : C11 G) (hd : 3 ≤ G.d) {rs : List Rw} (hs : Srt rs) (hok : ∀ r ∈ rs, RwOk r) (hn : rs.length ≤ 900) {i : Nat} {r : Rw} (hr : rs[i]? = some r) {a : Addr} {t rws v4 v5 v6 v7 : V} {Q : KS}
    (h : ∀ v4 v5 v6 v7, Q .next [t, rws, .ref a, .str (lineOf r), v4, v5, v6, v7] (σ1 a ((rs.take (i + 1)).map RowV))) : WS G K_read RB [t, rws, .ref a, .str (lineOf r), v4, v5, v6, v7] (σ1 a ((rs.take i).map RowV)) Q := by
  have hrk := hok r (List.mem_of_getElem? hr)
  obtain ⟨hi, e⟩ := List.getElem?_eq_some_iff.mp hr
  have hll := line_len hrk
  have hoN : okN r.1 = true := by unfold okN; rw [decide_eq_true hrk.1, hrk.2.1]; rfl
  have hln : ((rs.take i).map RowV).length = i := by rw [List.length_map, List.length_take]; (exact a63 hi)
  refine ws_asgT (ev_part (ev_var 3 rfl) (ev_lit [32]) (part_line r) (by (exact a424 hll))) (asg_tup3 4 5 6) (ws_if (b := false) (tr_cmp (ev_var 5 rfl) (ev_lit []) cm_eqs) nofun fun _ => ws_nil ?_)
  refine ws_asg 7 (ev_call (c_number_of C hrk.2.2 (Nat.le_trans (by decide) hd)) (evl_cons (ev_var 4 rfl) evl_nil)) ?_
  refine ws_if (b := false) (Tr.to (tr_not (tr_ev (ev_call (c_is_name C.cw (w := r.1) (Nat.le_trans hrk.1 (by decide)) (Nat.le_trans (by decide) hd)) (evl_cons (ev_var 6 rfl) evl_nil)))) (by rw [hoN]; rfl)) nofun fun _ => ws_nil ?_
  have fin : WS G K_read (RB.drop 5) [t, rws, .ref a, .str (lineOf r), .str (dec r.2), .str [32], .str r.1, .int r.2] (σ1 a ((rs.take i).map RowV)) Q := by
    refine ws_append (ev_var 2 rfl) (σ1_self ..) (ev_tuple (evl_cons (ev_var 6 rfl) (evl_cons (ev_var 7 rfl) evl_nil)) sz2) (by rw [hln, szL]; (exact a427 hi hn)) (ws_nil ?_)
    have : (σ1 a ((rs.take i).map RowV)).set a ((rs.take i).map RowV ++ [.tup [.str r.1, .int r.2]]) = σ1 a ((rs.take (i + 1)).map RowV) := by
      unfold σ1
      rw [set_set, List.take_succ_eq_append_getElem hi, e, List.map_append]; rfl
    rw [this]
    exact h _ _ _ _
  cases i with
  | zero => exact ws_if (b := false) (tr_bop (trl_and (b := false) (c := false) (tr_cmp (ev_leno (ev_var 2 rfl) (σ1_self ..) (by rw [hln]; decide)) ev_int cm_gt) nofun)) nofun fun _ => ws_nil fin
  | succ i =>
    have hi' : i < rs.length := by (exact a93 hi)
    have hlast : ((rs.take (i + 1)).map RowV).getLast? = some (RowV rs[i]) := by rw [List.take_succ_eq_append_getElem hi', List.map_append]; exact List.getLast?_concat ..
    have hlt : rs[i].1 < r.1 := e ▸ List.pairwise_iff_getElem.mp hs i (i + 1) hi' hi (by (exact a439 ))
    refine ws_if (b := false) (Tr.to (tr_bop (trl_and (tr_cmp (ev_leno (ev_var 2 rfl) (σ1_self ..) (by rw [hln]; (exact a453 hi hn))) ev_int cm_gt) fun _ => trl_one (tr_not (tr_cmp (ev_row0 (ev_idxo_last (ev_var 2 rfl) (ev_neg ev_int) (σ1_self ..) hlast)) (ev_var 6 rfl) cm_lts)))) ?_) nofun fun _ => ws_nil fin
    rw [decide_eq_true hlt]; exact Bool.and_false _
theorem c_read (C : C11 G) {f : Nat} {rs : List Rw} (hg : Good f rs) (hok : ∀ r ∈ rs, RwOk r) (hn : rs.length ≤ 900) (hd : f + 4 ≤ G.d) : Pure G "read" [.str (joinL [10] (rs.map lineOf ++ [[]]))] (treeV f rs) := by
  have hz : Sz (rs.map lineOf) := ⟨by rw [List.length_map]; exact hn, fun t ht => by obtain ⟨r, hr, rfl⟩ := List.mem_map.mp ht; exact Nat.le_trans (line_len (hok r hr)) (by decide), fun t ht => by obtain ⟨r, hr, rfl⟩ := List.mem_map.mp ht; exact line_10 (hok r hr)⟩
  obtain ⟨h1, h2, h3, h4⟩ := hz.snoc (t := []) (by decide) nofun
  have e : (rs.map lineOf ++ [[]]).map V.str = (rs.map lineOf).map V.str ++ [V.str []] := List.map_append ..
  have h5 : ((rs.map lineOf).map V.str ++ [V.str []]).length ≤ 901 := by rw [← e, List.length_map]; exact h4
  refine pure_of C.read rfl (by (exact a423 hd)) (ws_asg 1 ((ev_split (ev_var 0 rfl) (ev_lit [10]) h1 h2 h3).to (congrArg V.lst e)) ?_)
  refine ws_if (b := false) (tr_cmp (ev_idxl_last (ev_var 1 rfl) (ev_neg ev_int) (by (exact a462 h5)) (List.getLast?_concat ..)) (ev_lit []) cm_nes) nofun fun _ => ws_nil (ws_new 2 fun a _ => ?_)
  refine ws_for (xs := (rs.map lineOf).map V.str) (fun i ρ σ => σ = σ1 a ((rs.take i).map RowV) ∧ ∃ v3 v4 v5 v6 v7, ρ = [.str (joinL [10] (rs.map lineOf ++ [[]])), .lst ((rs.map lineOf).map V.str ++ [V.str []]), .ref a, v3, v4, v5, v6, v7]) ((ev_slcl (ev_var 1 rfl) evo_none (evo_some (ev_neg ev_int)) (by rw [szL]; (exact a479 h5))).to (congrArg V.lst (slice_init _ _))) rfl ⟨rfl, _, _, _, _, _, rfl⟩ ?_ ?_
  · rintro i ρ σ x hx ⟨rfl, v3, v4, v5, v6, v7, rfl⟩
    rw [List.map_map, List.getElem?_map] at hx
    obtain ⟨r, hr, rfl⟩ := Option.map_eq_some_iff.mp hx
    exact ⟨_, asg_name 3, read_turn (G := G.dn) C.dn (by show 3 ≤ G.d - 1; (exact a485 hd)) hg.srt hok hn hr fun v4 v5 v6 v7 => ⟨rfl, _, _, _, _, _, rfl⟩⟩
  · rintro ρ σ ⟨rfl, v3, v4, v5, v6, v7, rfl⟩
    rw [List.length_map, List.length_map, List.take_length]
    exact ws_ret (ev_callT (c_built f (G := G.dn) C.common C.grouped C.built hg (by show f + 2 ≤ G.d - 1; (exact a486 hd))) (treeV_tn f rs) (ev_var 2 rfl) (σ1_self ..)) (.id _)
/-! ## read raises -/
inductive Bad (prev : Option (List Nat)) (row : List Nat) : Prop
  | noblank : 32 ∉ row → Bad prev row
  | num (w n : List Nat) : row = w ++ 32 :: n → 32 ∉ w → badNum w = true → Bad prev row
  | name (i : Int) (n : List Nat) : row = dec i ++ 32 :: n → i.natAbs < 10 ^ 60 → okN n = false → Bad prev row
  | rise (i : Int) (n p : List Nat) : row = dec i ++ 32 :: n → i.natAbs < 10 ^ 60 → okN n = true → prev = some p → ¬ p < n → Bad prev row
theorem z_row (C : C11 G) {X : Addr} (hX : XC G "NoNote" X) (hd : 3 ≤ G.d) {rs : List Rw} (hn : rs.length ≤ 900) {row : List Nat} (hl : row.length ≤ 1000) (hb : Bad (rs.getLast?.map (·.1)) row) {a : Addr} {t rws v4 v5 v6 v7 : V} : WR G K_read RB [t, rws, .ref a, .str row, v4, v5, v6, v7] (σ1 a (rs.map RowV)) X := by
  have d1 : 0 < G.d := Nat.le_trans (by decide) hd
  have part : ∀ (i : Int) (n : List Nat), row = dec i ++ 32 :: n → Part row (dec i) [32] n := fun i n e => .inr ⟨e, dec_no (.inl (by decide)) (by decide), rfl⟩
  have go : ∀ {w n : List Nat}, Part row w [32] n → WR G K_read (RB.drop 2) [t, rws, .ref a, .str row, .str w, .str [32], .str n, v7] (σ1 a (rs.map RowV)) X → WR G K_read RB [t, rws, .ref a, .str row, v4, v5, v6, v7] (σ1 a (rs.map RowV)) X := fun hp h =>
    wr_seq (ws_asgT (ev_part (ev_var 3 rfl) (ev_lit [32]) hp (by (exact a495 hl))) (asg_tup3 4 5 6) (ws_nil ⟨rfl, wr_seq (ws_if (b := false) (tr_cmp (ev_var 5 rfl) (ev_lit []) cm_eqs) nofun fun _ => ws_nil (ws_nil ⟨rfl, h⟩))⟩))
  have go2 : ∀ {i : Int} {n : List Nat}, row = dec i ++ 32 :: n → i.natAbs < 10 ^ 60 → WR G K_read (RB.drop 3) [t, rws, .ref a, .str row, .str (dec i), .str [32], .str n, .int i] (σ1 a (rs.map RowV)) X → WR G K_read RB [t, rws, .ref a, .str row, v4, v5, v6, v7] (σ1 a (rs.map RowV)) X := fun {i n} e hi h =>
    go (part i n e) (wr_seq (ws_asg 7 (ev_call (c_number_of C hi d1) (evl_cons (ev_var 4 rfl) evl_nil)) (ws_nil ⟨rfl, h⟩)))
  have hnl : ∀ {i : Int} {n : List Nat}, row = dec i ++ 32 :: n → n.length ≤ 1000 := fun e => by
    have := congrArg List.length e
    rw [List.length_append, List.length_cons] at this
    (exact a510 this hl)
  cases hb with
  | noblank h => exact wr_seq (ws_asgT (ev_part (ev_var 3 rfl) (ev_lit [32]) (.inl ⟨h, rfl, rfl, rfl⟩) (by (exact a495 hl))) (asg_tup3 4 5 6) (ws_nil ⟨rfl, wr_if (b := true) (tr_cmp (ev_var 5 rfl) (ev_lit []) cm_eqs) (fun _ => wr_raise hX) nofun⟩))
  | num w n e hw hb =>
    refine go (.inr ⟨e, hw, rfl⟩) (wr_asg (z_number_of C hX ?_ hb d1) (evl_cons (ev_var 4 rfl) evl_nil))
    have := congrArg List.length e
    rw [List.length_append] at this
    (exact a518 this hl)
  | name i n e hi ho => exact go2 e hi (wr_if (b := true) (Tr.to (tr_not (tr_ev (ev_call (c_is_name C.cw (hnl e) (Nat.le_trans (by decide) hd)) (evl_cons (ev_var 6 rfl) evl_nil)))) (by rw [ho]; rfl)) (fun _ => wr_raise hX) nofun)
  | rise i n p e hi ho hp hlt =>
    obtain ⟨q, hq, rfl⟩ := Option.map_eq_some_iff.mp hp
    have hlast : (rs.map RowV).getLast? = some (RowV q) := by rw [List.getLast?_map, hq]; rfl
    have hpos : 0 < rs.length := List.length_pos_iff.mpr fun e => by rw [e] at hq; cases hq
    refine go2 e hi (wr_seq (ws_if (b := false) (Tr.to (tr_not (tr_ev (ev_call (c_is_name C.cw (hnl e) (Nat.le_trans (by decide) hd)) (evl_cons (ev_var 6 rfl) evl_nil)))) (by rw [ho]; rfl)) nofun fun _ => ws_nil (ws_nil ⟨rfl, wr_if (b := true) (Tr.to (tr_bop (trl_and (tr_cmp (ev_leno (ev_var 2 rfl) (σ1_self ..) (by rw [List.length_map]; (exact a542 hn))) ev_int cm_gt) fun _ => trl_one (tr_not (tr_cmp (ev_row0 (ev_idxo_last (ev_var 2 rfl) (ev_neg ev_int) (σ1_self ..) hlast)) (ev_var 6 rfl) cm_lts)))) ?_) (fun _ => wr_raise hX) nofun⟩)))
    rw [decide_eq_false hlt, List.length_map, decide_eq_true (by (exact a545 hpos) : (0 : Int) < (rs.length : Nat))]; rfl
/-- a text that read refuses -/
inductive Spoilt (t : List Nat) : Prop
  | last (ts : List (List Nat)) (l : List Nat) : Sz ts → l.length ≤ 1000 → 10 ∉ l → l ≠ [] → t = joinL [10] (ts ++ [l]) → Spoilt t
  | row (rs : List Rw) (row : List Nat) (rest : List (List Nat)) : Srt rs → (∀ r ∈ rs, RwOk r) → Sz (rs.map lineOf ++ row :: rest) → Bad (rs.getLast?.map (·.1)) row → t = joinL [10] ((rs.map lineOf ++ row :: rest) ++ [[]]) → Spoilt t
theorem z_read (C : C11 G) {X : Addr} (hX : XC G "NoNote" X) {t : List Nat} (h : Spoilt t) (hd : 4 ≤ G.d) : Rz G "read" [.str t] X := by
  cases h with
  | last ts l hz hl hf hne e =>
    subst e
    obtain ⟨h1, h2, h3, h4⟩ := hz.snoc hl hf
    have e : (ts ++ [l]).map V.str = ts.map V.str ++ [V.str l] := List.map_append ..
    have h5 : (ts.map V.str ++ [V.str l]).length ≤ 901 := by rw [← e, List.length_map]; exact h4
    refine rz_of C.read rfl (by (exact a574 hd)) (wr_seq (ws_asg 1 ((ev_split (ev_var 0 rfl) (ev_lit [10]) h1 h2 h3).to (congrArg V.lst e)) (ws_nil ⟨rfl, wr_if (b := true) (Tr.to (tr_cmp (ev_idxl_last (ev_var 1 rfl) (ev_neg ev_int) (by (exact a462 h5)) (List.getLast?_concat ..)) (ev_lit []) cm_nes) ?_) (fun _ => wr_raise hX) nofun⟩)))
    rw [beq_eq_false_iff_ne.mpr hne]; rfl
  | row rs row rest hs hok hz hb e =>
    subst e
    obtain ⟨h1, h2, h3, h4⟩ := hz.snoc (t := []) (by decide) nofun
    have hrl := hz.len row (by simp)
    have hln := hz.num
    rw [List.length_append, List.length_map, List.length_cons] at hln
    generalize hT : rs.map lineOf ++ row :: rest = ts at *
    have e : (ts ++ [[]]).map V.str = ts.map V.str ++ [V.str []] := List.map_append ..
    have h5 : (ts.map V.str ++ [V.str []]).length ≤ 901 := by rw [← e, List.length_map]; exact h4
    refine rz_of C.read rfl (by (exact a574 hd)) (wr_seq (ws_asg 1 ((ev_split (ev_var 0 rfl) (ev_lit [10]) h1 h2 h3).to (congrArg V.lst e)) (ws_nil ⟨rfl, wr_seq (ws_if (b := false) (tr_cmp (ev_idxl_last (ev_var 1 rfl) (ev_neg ev_int) (by (exact a462 h5)) (List.getLast?_concat ..)) (ev_lit []) cm_nes) nofun fun _ => ws_nil (ws_nil ⟨rfl, wr_seq (ws_new 2 fun a _ => ws_nil ⟨rfl, ?_⟩)⟩))⟩)))
    refine wr_for (xs := ts.map V.str) (fun i ρ σ => σ = σ1 a ((rs.take i).map RowV) ∧ ∃ v3 v4 v5 v6 v7, ρ = [.str (joinL [10] (ts ++ [[]])), .lst (ts.map V.str ++ [V.str []]), .ref a, v3, v4, v5, v6, v7]) rs.length (by rw [List.length_map, ← hT, List.length_append, List.length_map, List.length_cons]; (exact a603 )) ((ev_slcl (ev_var 1 rfl) evo_none (evo_some (ev_neg ev_int)) (by rw [szL]; (exact a479 h5))).to (congrArg V.lst (slice_init _ _))) rfl ⟨rfl, _, _, _, _, _, rfl⟩ ?_ ?_
    · rintro i ρ σ x hi hx ⟨rfl, v3, v4, v5, v6, v7, rfl⟩
      rw [← hT, List.map_append, List.getElem?_append_left (by rw [List.length_map, List.length_map]; exact hi), List.map_map, List.getElem?_map] at hx
      obtain ⟨r, hr, rfl⟩ := Option.map_eq_some_iff.mp hx
      exact ⟨_, asg_name 3, read_turn (G := G.dn) C.dn (by show 3 ≤ G.d - 1; (exact a608 hd)) hs hok (by (exact a611 hln)) hr fun v4 v5 v6 v7 => ⟨rfl, _, _, _, _, _, rfl⟩⟩
    · rintro ρ σ x hx ⟨rfl, v3, v4, v5, v6, v7, rfl⟩
      rw [← hT, List.map_append, List.getElem?_append_right (by rw [List.length_map, List.length_map]; exact Nat.le_refl _), List.length_map, List.length_map, Nat.sub_self] at hx
      cases hx
      rw [List.take_length]
      exact ⟨_, asg_name 3, z_row (G := G.dn) C.dn hX (by show 3 ≤ G.d - 1; (exact a608 hd)) (by (exact a611 hln)) hrl hb⟩
theorem c_refused (C : C11 G) {t : List Nat} (h : Spoilt t) (hd : 5 ≤ G.d) : Pure G "_law_refused" [.str t] (.bool true) := by
  obtain ⟨X, hX⟩ := C.x0
  obtain ⟨X1, h1⟩ := C.x1
  obtain ⟨X2, h2⟩ := C.x2
  obtain ⟨X3, h3⟩ := C.x3
  obtain ⟨X4, h4⟩ := C.x4
  obtain ⟨X5, h5⟩ := C.x5
  obtain ⟨X6, h6⟩ := C.x6
  obtain ⟨X7, h7⟩ := C.x7
  exact pure_of C.refused rfl (by (exact a442 hd)) (ws_try (wr_call (z_read (G := G.dn) C.dn hX h (by show 4 ≤ G.d - 1; (exact a559 hd))) (evl_cons (ev_var 0 rfl) evl_nil)) hX (suite_if (es_in3 (G := G.dn) hX C.cls h2 C.m2 h3 C.m3 h4 C.m4) (suite_if (es_in3 (G := G.dn) hX C.cls h5 C.m5 h6 C.m6 h7 C.m7) (suite_ret (es_both (G := G.dn) hX h1 C.m1 C.ve)))) fun _ _ => .id _)
end
end Mine

set_option autoImplicit false
set_option linter.all false
set_option maxRecDepth 100000
namespace Mine
open PySem PySem.W PyProof.Rows
/-! ## spoilt texts: plain -/
theorem joinL_end {L : List (List Nat)} (h : L ≠ []) : joinL [10] L ++ [10] = joinL [10] (L ++ [[]]) := by
  cases L with
  | nil => exact absurd rfl h
  | cons x r =>
    show (x ++ r.flatMap ([10] ++ ·)) ++ [10] = x ++ (r ++ [[]]).flatMap ([10] ++ ·)
    rw [List.flatMap_append, List.append_assoc]; rfl
theorem joinL_lines : ∀ (L : List (List Nat)), joinL [] (L.map (· ++ [10])) = joinL [10] (L ++ [[]])
  | [] => rfl
  | [x] => by show (x ++ [10]) ++ [] = x ++ ([[]] : List (List Nat)).flatMap ([10] ++ ·); simp
  | x :: y :: r => by
    have := joinL_lines (y :: r)
    rw [List.map_cons, List.map_cons, joinL_cons, List.cons_append, List.cons_append, joinL_cons]
    rw [List.map_cons, List.cons_append] at this
    rw [this]; simp
structure BadX (x : List Nat) : Prop where
  bad : ∀ prev, Bad prev x
  len : x.length ≤ 1000
  free : 10 ∉ x
theorem not_app {c : Nat} {a b : List Nat} (h1 : c ∉ a) (h2 : c ∉ b) : c ∉ a ++ b := fun m => (List.mem_append.mp m).elim h1 h2
theorem not_cons {c d : Nat} {b : List Nat} (h1 : c ≠ d) (h2 : c ∉ b) : c ∉ d :: b := fun m => (List.mem_cons.mp m).elim h1 h2
theorem badX_num {x : List Nat} (w n : List Nat) (e : x = w ++ 32 :: n) (hw : 32 ∉ w) (hb : badNum w = true) (h10 : 10 ∉ w) (hn10 : 10 ∉ n) (hl : w.length ≤ 400) (hn : n.length ≤ 400) : BadX x := by
  refine ⟨fun _ => .num w n e hw hb, ?_, ?_⟩
  · rw [e, List.length_append, List.length_cons]; (exact a406 hl hn)
  · rw [e]; exact not_app h10 (not_cons (by decide) hn10)
theorem bad_mid {u v : List Nat} {c : Nat} (hc : isFig c = false) (h : c ≠ 45 ∨ u ≠ []) : badNum (u ++ c :: v) = true := by
  have hm : c ∈ figs (u ++ c :: v) := by
    cases u with
    | nil =>
      have h45 : c ≠ 45 := h.elim id fun q => absurd rfl q
      unfold figs
      split
      · rename_i hp
        have : [45].isPrefixOf (c :: v) = ((45 == c) && [].isPrefixOf v) := rfl
        rw [List.nil_append, this, beq_eq_false_iff_ne.mpr h45.symm] at hp
        cases hp
      · simp
    | cons d u =>
      unfold figs
      split
      · show c ∈ u ++ c :: v; simp
      · simp
  have : (figs (u ++ c :: v)).all isFig = false := by
    rw [List.all_eq_false]
    exact ⟨c, hm, by rw [hc]; decide⟩
  unfold badNum okF
  rw [this, Bool.and_false]; rfl
def hds : List (List Nat) := [lit "00 ", lit "-0 ", lit "+1 ", lit "1x ", lit "- ", lit "-01 ", List.replicate 61 49 ++ [32], lit " 1 ", [], lit "0x1 "]
def x4 (way : Nat) (r : Row) : List Nat := if way = 8 then [] else hds.getD way [] ++ r.1
theorem name_10 {r : Row} (h : RwOk r) : 10 ∉ r.1 := okS_no h.2.1 (by decide)
theorem x4_bad {way : Nat} (hw : way < 10) {r : Row} (h : RwOk r) : BadX (x4 way r) := by
  have hn := name_10 h
  have hl : r.1.length ≤ 400 := Nat.le_trans h.1 (by decide)
  match way, hw with
  | 0, _ => exact badX_num [48, 48] r.1 rfl (by decide) (by decide +kernel) (by decide) hn (by decide) hl
  | 1, _ => exact badX_num [45, 48] r.1 rfl (by decide) (by decide +kernel) (by decide) hn (by decide) hl
  | 2, _ => exact badX_num [43, 49] r.1 rfl (by decide) (by decide +kernel) (by decide) hn (by decide) hl
  | 3, _ => exact badX_num [49, 120] r.1 rfl (by decide) (by decide +kernel) (by decide) hn (by decide) hl
  | 4, _ => exact badX_num [45] r.1 rfl (by decide) (by decide +kernel) (by decide) hn (by decide) hl
  | 5, _ => exact badX_num [45, 48, 49] r.1 rfl (by decide) (by decide +kernel) (by decide) hn (by decide) hl
  | 6, _ => exact badX_num (List.replicate 61 49) r.1 (by show (List.replicate 61 49 ++ [32]) ++ r.1 = _; rw [List.append_assoc]; rfl) (by decide +kernel) (by decide +kernel) (by decide +kernel) hn (by decide +kernel) hl
  | 7, _ => exact badX_num [] ([49, 32] ++ r.1) rfl (by decide) (by decide +kernel) (by decide) (not_app (by decide) hn) (by decide) (by rw [List.length_append]; have := h.1; show 2 + _ ≤ _; (exact a422 this))
  | 8, _ => exact ⟨fun _ => .noblank nofun, Nat.zero_le _, nofun⟩
  | 9, _ => exact badX_num [48, 120, 49] r.1 rfl (by decide) (by decide +kernel) (by decide) hn (by decide) hl
theorem x4_neg {r : Row} (h : RwOk r) : BadX ([45] ++ x4 6 r) :=
  badX_num (45 :: List.replicate 61 49) r.1 (by show 45 :: ((List.replicate 61 49 ++ [32]) ++ r.1) = _; rw [List.append_assoc]; rfl) (by decide +kernel) (by decide +kernel) (by decide +kernel) (name_10 h) (by decide +kernel) (Nat.le_trans h.1 (by decide))
theorem line_eq (r : Row) : lineOf r = dec r.2 ++ 32 :: r.1 := by unfold lineOf; rw [List.append_assoc]; rfl
theorem line_more {r : Row} (h : RwOk r) {y : List Nat} (hy : okN (r.1 ++ y) = false) (hl : y.length ≤ 100) (hf : 10 ∉ y) : BadX (lineOf r ++ y) := by
  have hll := line_len h
  refine ⟨fun _ => .name r.2 (r.1 ++ y) (by rw [line_eq, List.append_assoc]; rfl) h.2.2 hy, by rw [List.length_append]; (exact a408 hll hl), not_app (line_10 h) hf⟩
theorem dec_only {r : Row} (h : RwOk r) : BadX (dec r.2) := ⟨fun _ => .noblank (dec_no (.inl (by decide)) (by decide)), Nat.le_trans (dec_len h.2.2) (by decide), dec_no (.inl (by decide)) (by decide)⟩
theorem mid_bad {r : Row} (h : RwOk r) {p c : Nat} (hc : isFig c = false) (h45 : c ≠ 45 ∨ 1 ≤ p) (h32 : c ≠ 32) (h10 : c ≠ 10) : BadX ((dec r.2).take p ++ [c] ++ (dec r.2).drop p ++ [32] ++ r.1) := by
  have hl := dec_len h.2.2
  have nt : ∀ {d : Nat}, d ∉ dec r.2 → d ∉ (dec r.2).take p := fun hd m => hd (List.mem_of_mem_take m)
  have nd : ∀ {d : Nat}, d ∉ dec r.2 → d ∉ (dec r.2).drop p := fun hd m => hd (List.mem_of_mem_drop m)
  have n32 : 32 ∉ dec r.2 := dec_no (.inl (by decide)) (by decide)
  have n10 : 10 ∉ dec r.2 := dec_no (.inl (by decide)) (by decide)
  refine badX_num ((dec r.2).take p ++ c :: (dec r.2).drop p) r.1 (by simp) (not_app (nt n32) (not_cons h32.symm (nd n32))) (bad_mid hc (h45.imp id fun hp e => ?_)) (not_app (nt n10) (not_cons h10.symm (nd n10))) (name_10 h) ?_ (Nat.le_trans h.1 (by decide))
  · have h1 := congrArg List.length e
    rw [List.length_take] at h1
    have h2 := dec_pos r.2
    have h3 : min p (dec r.2).length = 0 := h1
    (exact a409 h3 hp h2)
  · rw [List.length_append, List.length_cons, List.length_take, List.length_drop]; (exact a410 hl)
theorem lines_sz {rs : List Rw} (hok : ∀ r ∈ rs, RwOk r) {t : List Nat} (ht : t ∈ rs.map lineOf) : t.length ≤ 1000 ∧ 10 ∉ t := by
  obtain ⟨r, hr, rfl⟩ := List.mem_map.mp ht
  exact ⟨Nat.le_trans (line_len (hok r hr)) (by decide), line_10 (hok r hr)⟩
theorem sp_row {rs : List Rw} (hs : Srt rs) (hok : ∀ r ∈ rs, RwOk r) (hn : rs.length ≤ 150) {j : Nat} (hj : j < rs.length) {x : List Nat} (hx : BadX x) : Spoilt (joinL [10] ((rs.map lineOf).set j x) ++ [10]) := by
  have e : (rs.map lineOf).set j x = (rs.take j).map lineOf ++ x :: (rs.drop (j + 1)).map lineOf := by
    rw [List.set_eq_take_append_cons_drop, if_pos (by rw [List.length_map]; exact hj), List.map_take, List.map_drop]
  rw [joinL_end (by rw [e]; simp), e]
  refine .row (rs.take j) x ((rs.drop (j + 1)).map lineOf) (List.Pairwise.sublist (List.take_sublist ..) hs) (fun r hr => hok r (List.mem_of_mem_take hr)) ⟨?_, fun t ht => ?_, fun t ht => ?_⟩ (hx.bad _) rfl
  · rw [List.length_append, List.length_map, List.length_cons, List.length_map, List.length_take, List.length_drop]; (exact a411 hj hn)
  · rcases List.mem_append.mp ht with h | h
    · exact (lines_sz (rs := rs.take j) (fun r hr => hok r (List.mem_of_mem_take hr)) h).1
    · exact (List.mem_cons.mp h).elim (fun e => e ▸ hx.len) fun h => (lines_sz (rs := rs.drop (j + 1)) (fun r hr => hok r (List.mem_of_mem_drop hr)) h).1
  · rcases List.mem_append.mp ht with h | h
    · exact (lines_sz (rs := rs.take j) (fun r hr => hok r (List.mem_of_mem_take hr)) h).2
    · exact (List.mem_cons.mp h).elim (fun e => e ▸ hx.free) fun h => (lines_sz (rs := rs.drop (j + 1)) (fun r hr => hok r (List.mem_of_mem_drop hr)) h).2
theorem sp_last {rs : List Rw} (hok : ∀ r ∈ rs, RwOk r) (hn : rs.length ≤ 150) (hne : rs ≠ []) : Spoilt (joinL [10] (rs.map lineOf)) := by
  obtain ⟨i, x, rfl⟩ : ∃ i x, rs = i ++ [x] := (last_cases rs).elim (fun h => absurd h hne) id
  rw [List.length_append] at hn
  have hi : ∀ r ∈ i, RwOk r := fun r hr => hok r (List.mem_append_left _ hr)
  have hx := hok x (by simp)
  refine .last (i.map lineOf) (lineOf x) ⟨by rw [List.length_map]; (exact a413 hn), fun t ht => (lines_sz hi ht).1, fun t ht => (lines_sz hi ht).2⟩ (Nat.le_trans (line_len hx) (by decide)) (line_10 hx) (fun e => ?_) (by rw [List.map_append]; rfl)
  rw [line_eq] at e
  simp at e
/-- two rows of which the second does not rise -/
theorem sp_rise {rs : List Rw} {rest : List (List Nat)} {p r : Rw} (hs : Srt (rs ++ [p])) (hok : ∀ r ∈ rs ++ [p], RwOk r) (hr : RwOk r) (hlt : ¬ p.1 < r.1) (hn : rs.length + rest.length ≤ 500) (hrest : ∀ t ∈ rest, t.length ≤ 1000 ∧ 10 ∉ t) : Spoilt (joinL [10] ((rs ++ [p]).map lineOf ++ lineOf r :: rest) ++ [10]) := by
  rw [joinL_end (by simp)]
  refine .row (rs ++ [p]) (lineOf r) rest hs hok ⟨?_, fun t ht => ?_, fun t ht => ?_⟩ (.rise r.2 r.1 p.1 (line_eq r) hr.2.2 ?_ (by rw [List.getLast?_concat]; rfl) hlt) rfl
  · rw [List.length_append, List.length_map, List.length_cons, List.length_append]; show _ + 1 + _ ≤ _; (exact a415 hn)
  · rcases List.mem_append.mp ht with h | h
    · exact (lines_sz hok h).1
    · exact (List.mem_cons.mp h).elim (fun e => e ▸ Nat.le_trans (line_len hr) (by decide)) fun h => (hrest t h).1
  · rcases List.mem_append.mp ht with h | h
    · exact (lines_sz hok h).2
    · exact (List.mem_cons.mp h).elim (fun e => e ▸ line_10 hr) fun h => (hrest t h).2
  · unfold okN; rw [decide_eq_true hr.1, hr.2.1]; rfl
end Mine

set_option autoImplicit false
set_option linter.all false
set_option maxRecDepth 100000
namespace Mine
open PySem PySem.W PyProof.Rows
/-! ## spoilt -/
def noFig (c : Int) : Nat :=
  let s := if c % 7 = 0 then 9 else signBy c
  if s ∈ [48, 49, 50, 51, 52, 53, 54, 55, 56, 57, 45, 32] then 95 else s
theorem noFig_ok (c : Int) : isFig (noFig c) = false ∧ noFig c ≠ 45 ∧ noFig c ≠ 32 ∧ noFig c ≠ 10 := by
  unfold noFig
  have h10 : (if c % 7 = 0 then 9 else signBy c) ≠ 10 := by
    split
    · decide
    · intro e
      have := sign_okS c
      rw [e] at this
      exact absurd this (by decide)
  generalize (if c % 7 = 0 then 9 else signBy c) = s at h10
  show isFig (if s ∈ _ then 95 else s) = false ∧ _
  by_cases h : s ∈ [48, 49, 50, 51, 52, 53, 54, 55, 56, 57, 45, 32]
  · rw [if_pos h]; decide
  · rw [if_neg h]
    simp only [List.mem_cons, List.not_mem_nil, or_false, not_or] at h
    refine ⟨?_, by (exact a431 h), by (exact a434 h), h10⟩
    rw [Bool.eq_false_iff]
    intro q
    have := (isFig_iff s).mp q
    (exact a435 this h)
section
variable {G : Gl}
theorem c_no_figure (C : C11 G) {c : Int} (hd : 2 ≤ G.d) : Pure G "_law_no_figure" [.int c] (.str [noFig c]) := by
  have e : [([signBy c] ++ [9]).getD (if (c % 7 == 0) = true then (1 : Int) else 0).toNat 0] = [if c % 7 = 0 then 9 else signBy c] := by
    by_cases h : c % 7 = 0
    · rw [if_pos h, if_pos (beq_iff_eq.mpr h)]; rfl
    · rw [if_neg h, if_neg (fun q => h (beq_iff_eq.mp q))]; rfl
  refine pure_of C.no_figure rfl (by (exact a436 hd)) (ws_asg 1 (Ev.to (ev_idxs (a := [signBy c] ++ [9]) (ev_adds (ev_call (c_sign_by (G := G.dn) C.r.sign (dl hd)) (evl_cons (ev_var 0 rfl) evl_nil)) (ev_lit [9]) sz2) (ev_int1 (ev_cmp (ev_mod (ev_var 0 rfl) ev_int (by decide)) ev_int cm_eqi)) (by split <;> decide) (by show _ < ((2 : Nat) : Int); split <;> decide) (by show 2 < _; decide)) (congrArg V.str e)) ?_)
  refine ws_if (tr_cmp (ev_var 1 rfl) (ev_lit [48, 49, 50, 51, 52, 53, 54, 55, 56, 57, 45, 32]) cm_ins) (fun h => ws_ret (ev_lit [95]) ?_) (fun h => ws_nil (ws_ret (ev_var 1 rfl) ?_))
  · unfold noFig
    rw [if_pos (of_decide_eq_true h)]; exact .id _
  · unfold noFig
    rw [if_neg (of_decide_eq_false h)]; exact .id _
section
variable {K : Sx} {ρ : List V} {Q : KS} {e l r : PySem.Expr} {p q : Pos} {ss : List Stmt} {a : Addr} {L : List (List Nat)} {x y : List Nat} {j : Nat}
theorem ws_line (hj : j < L.length) (hL : L.length ≤ 1000) (h1 : Ev G K ρ (σ1 a ((L.set j x).map V.str)) l (.ref a)) (h2 : Ev G K ρ (σ1 a ((L.set j x).map V.str)) r (.int j)) (h3 : Ev G K ρ (σ1 a ((L.set j x).map V.str)) e (.str y)) (h : WS G K ss ρ (σ1 a ((L.set j y).map V.str)) Q)
    (hsw : ∀ env, env.scope = K.sc → swapsWith e (some (.Subscript l r q)) p.line env = pure false := by intros; rfl) : WS G K (.Assign [.Subscript l r q] e p :: ss) ρ (σ1 a ((L.set j x).map V.str)) Q := by
  refine ws_set h1 (σ1_self ..) h2 (by rw [List.length_map, List.length_set]; exact hj) (by rw [List.length_map, List.length_set]; exact Nat.le_trans hL (by decide)) h3 ?_ hsw
  have : (σ1 a ((L.set j x).map V.str)).set a (((L.set j x).map V.str).set j (.str y)) = σ1 a ((L.set j y).map V.str) := by
    unfold σ1
    rw [set_set, ← List.map_set, List.set_set]
  rw [this]; exact h
theorem ev_at (hj : j < L.length) (hL : L.length ≤ 1000) (h1 : Ev G K ρ (σ1 a ((L.set j x).map V.str)) l (.ref a)) (h2 : Ev G K ρ (σ1 a ((L.set j x).map V.str)) r (.int j)) (hn : notSlice r = true := by rfl) : Ev G K ρ (σ1 a ((L.set j x).map V.str)) (.Subscript l r p) (.str x) :=
  ev_idxo h1 h2 (σ1_self ..) (n0 j) (by (exact a428 hj hL)) (by rw [Int.toNat_natCast, List.getElem?_map, List.getElem?_set_self hj]; rfl) hn
end
/-- the row's line: of the first ten ways, spoilt already, or as it was -/
def S4 (way : Nat) (r : Row) (n : Nat) (x : List Nat) : Prop := (way < 10 ∧ x = x4 way r) ∨ (10 ≤ way ∧ way < n ∧ BadX x) ∨ (n ≤ way ∧ 10 ≤ way ∧ x = lineOf r)
theorem S4.next {way n : Nat} {r : Row} {x : List Nat} (h : S4 way r n x) (hn : way ≠ n) : S4 way r (n + 1) x := by
  rcases h with h | ⟨h1, h2, h3⟩ | ⟨h1, h2, h3⟩
  · exact .inl h
  · exact .inr (.inl ⟨h1, by (exact a429 h2), h3⟩)
  · exact .inr (.inr ⟨by (exact a433 h1 hn), h2, h3⟩)
theorem S4.here {way n : Nat} {r : Row} {x : List Nat} (h : S4 way r n x) (hn : way = n) (h10 : 10 ≤ n) : x = lineOf r := by
  rcases h with ⟨h1, _⟩ | ⟨_, h2, _⟩ | ⟨_, _, h3⟩
  · (exact (a430 h10 h1 hn).elim)
  · (exact (a432 h2 hn).elim)
  · exact h3
theorem way_eq {way n : Nat} (h : (((way : Nat) : Int) == (n : Int)) = true) : way = n := Int.ofNat_inj.mp (eq_of_beq h)
theorem way_ne {way n : Nat} (h : (((way : Nat) : Int) == (n : Int)) = false) : way ≠ n := fun e => by rw [e, beq_self_eq_true] at h; cases h
abbrev SR (rs : List Rw) (way j : Nat) (cell : Int) (ln : V) (r : Row) (v7 v8 v9 : V) : List V := [.lst (rs.map RowV), .int way, .int j, .int cell, ln, .str r.1, .lst (hds.map V.str), v7, v8, v9, .unb]
def SpV (z : V) : Prop := ∃ t, z = .str t ∧ Spoilt t
theorem spoilt_tail {rs : List Rw} {way j : Nat} {cell : Int} {ln : V} {r : Row} {v7 v8 v9 : V} {σ : Ow} {L : List (List Nat)} (hln : ln.ok = true) (hn : L.length ≤ 900) (hl : ∀ t ∈ L, t.length ≤ 1000)
    (hJ : ∀ {e l : PySem.Expr} {ap p : Pos}, Ev G K_law_spoilt (SR rs way j cell ln r v7 v8 v9) σ e (.str [10]) → Ev G K_law_spoilt (SR rs way j cell ln r v7 v8 v9) σ l ln → (∀ n env t, attributeBase e n env t = t) → (ap.endLine == p.line) = true → notStar l = true → Ev G K_law_spoilt (SR rs way j cell ln r v7 v8 v9) σ (.Call (.Attribute e "join" ap) [l] [] p) (.str (joinL [10] L)))
    (h14 : way = 14 → Spoilt (joinL [10] L)) (hsp : way ≠ 14 → Spoilt (joinL [10] L ++ [10])) : WS G K_law_spoilt (B_law_spoilt.drop 11) (SR rs way j cell ln r v7 v8 v9) σ (retP SpV) := by
  have hlen := joinL_len (c := 10) hl
  have h2 : L.length * (1000 + 1) ≤ 900 * 1001 := Nat.mul_le_mul_right _ hn
  refine ws_asg 10 (hJ (ev_lit [10]) (ev_var 4 rfl hln) (by intros; rfl) rfl rfl) (ws_if (tr_cmp (ev_var 1 rfl) ev_int cm_eqi) (fun h => ws_ret (ev_var 10 rfl) ⟨_, .id _, _, rfl, h14 (way_eq h)⟩) fun h => ws_nil (ws_ret (ev_adds (ev_var 10 rfl) (ev_lit [10]) ?_) ⟨_, .id _, _, rfl, hsp (way_ne h)⟩))
  show _ + 1 ≤ _
  rw [szL]; (exact a506 hlen hn)
end
end Mine

set_option autoImplicit false
set_option linter.all false
set_option maxRecDepth 100000
namespace Mine
open PySem PySem.W PyProof.Rows
section
variable {G : Gl}
theorem take_len {α : Type} (l : List α) (n : Nat) : (l.take n).length ≤ l.length := by rw [List.length_take]; (exact a441 )
theorem slice_at (s : List Nat) {i : Int} (h : 0 ≤ i) : slice s none (some i) = s.take i.toNat ∧ slice s (some i) none = s.drop i.toNat := ⟨slice_hi s h, slice_lo s h⟩
theorem e_mid {K : Sx} {ρ : List V} {σ : Ow} {e₁ e₂ e₃ e₄ e₅ e₆ : PySem.Expr} {a : Str} {c₁ : Nat} {p₁ p₂ p₃ p₄ p₅ q₁ q₂ q₃ q₄ : Pos} {h n : List Nat} {c : Nat} {i : Int} (h1 : Ev G K ρ σ e₁ (.str h)) (h2 : Ev G K ρ σ e₂ (.int i)) (h3 : Ev G K ρ σ e₃ (.str [c])) (h4 : Ev G K ρ σ e₄ (.str h)) (h5 : Ev G K ρ σ e₅ (.int i)) (h6 : Ev G K ρ σ e₆ (.str n)) (hi : 0 ≤ i) (hl : h.length ≤ 100) (hn : n.length ≤ 100) (ha : a.cps.toList = [32] := by decide +kernel) :
    Ev G K ρ σ (.BinOp (.BinOp (.BinOp (.BinOp (.Subscript e₁ (.Slice none (some e₂) none q₁) p₁) .Add e₃ p₂) .Add (.Subscript e₄ (.Slice (some e₅) none none q₂) q₃) p₃) .Add (.Constant (.str a) c₁ q₄) p₄) .Add e₆ p₅) (.str (h.take i.toNat ++ [c] ++ h.drop i.toNat ++ [32] ++ n)) := by
  have l1 : (h.take i.toNat).length ≤ 100 := Nat.le_trans (take_len ..) hl
  have l2 : (h.drop i.toNat).length ≤ 100 := by rw [List.length_drop]; (exact a443 hl)
  refine ev_adds (ev_adds (ev_adds (ev_adds ((ev_slc h1 evo_none (evo_some h2) (by rw [szL]; (exact a445 hl))).to (congrArg V.str (slice_at h hi).1)) h3 ?_) ((ev_slc h4 (evo_some h5) evo_none (by rw [szL]; (exact a445 hl))).to (congrArg V.str (slice_at h hi).2)) ?_) (ev_lit [32] ha) ?_) h6 ?_
  · show _ + 1 ≤ _; rw [szL]; (exact a446 l1)
  · rw [List.length_append, szL]; show _ + 1 + _ ≤ _; (exact a447 l1 l2)
  · rw [List.length_append, List.length_append, szL]; show _ + 1 + _ + 1 ≤ _; (exact a448 l1 l2)
  · rw [List.length_append, List.length_append, List.length_append, szL]; show _ + 1 + _ + 1 + _ ≤ _; (exact a449 l1 l2 hn)
/-- the ways but the 13th: from the eighth condition on -/
theorem spoilt_rest (C : C11 G) (hd : 3 ≤ G.d) {rs : List Rw} (hs : Srt rs) (hok : ∀ r ∈ rs, RwOk r) (hn : rs.length ≤ 150) {way j : Nat} (hw : way < 20) {r : Rw} (hr : rs[j]? = some r) {cell : Int} {a : Addr} {x : List Nat} (hx : S4 way r 14 x) :
    WS G K_law_spoilt (B_law_spoilt.drop 8) (SR rs way j cell (.ref a) r .unb .unb .unb) (σ1 a (((rs.map lineOf).set j x).map V.str)) (retP SpV) := by
  have hrk := hok r (List.mem_of_getElem? hr)
  have hj : j < rs.length := (List.getElem?_eq_some_iff.mp hr).1
  have hjL : j < (rs.map lineOf).length := by rw [List.length_map]; exact hj
  have hnL : (rs.map lineOf).length ≤ 1000 := by rw [List.length_map]; (exact a438 hn)
  have hlr := line_len hrk
  have hdl := dec_len hrk.2.2
  have hdp := dec_pos r.2
  have hnl := hrk.1
  have hsz : ∀ {t : List Nat}, t ∈ rs.map lineOf → t.length ≤ 1000 := fun ht => (lines_sz hok ht).1
  have hLr : (rs.map lineOf)[j]? = some (lineOf r) := by rw [List.getElem?_map, hr]; rfl
  have hid : (rs.map lineOf).set j (lineOf r) = rs.map lineOf := by
    obtain ⟨h1, h2⟩ := List.getElem?_eq_some_iff.mp hLr
    rw [← h2]; exact List.set_getElem_self h1
  generalize hL : rs.map lineOf = L at *
  refine ws_ifm (fun ρ σ => ∃ x, ((way < 14 ∧ BadX x) ∨ (14 ≤ way ∧ x = lineOf r)) ∧ σ = σ1 a ((L.set j x).map V.str) ∧ ρ = SR rs way j cell (.ref a) r .unb .unb .unb) (tr_bop (trl_and (tr_cmp (ev_var 1 rfl) ev_int cm_eqi) fun _ => trl_one (tr_cmp (ev_mod (ev_var 3 rfl) ev_int (by decide)) ev_int cm_eqi))) (fun h => ?_) (fun h => ws_nil ⟨x, ?_, rfl, rfl⟩) ?_
  · have h6 : way = 6 := way_eq (n := 6) (Bool.and_eq_true_iff.mp h).1
    have hx6 : x = x4 6 r := by
      rcases hx with ⟨_, e⟩ | ⟨h1, _⟩ | ⟨_, h2, _⟩
      · rw [e, h6]
      · (first | lia | omega)
      · (first | lia | omega)
    subst hx6
    have hb := (x4_bad (way := 6) (by decide) hrk).len
    exact ws_line hjL hnL (ev_var 4 rfl) (ev_var 2 rfl) (ev_adds (ev_lit [45]) (ev_at hjL hnL (ev_var 4 rfl) (ev_var 2 rfl)) (by rw [szL]; show 1 + _ ≤ _; (exact a454 hb))) (ws_nil ⟨_, .inl ⟨by (first | lia | omega), x4_neg hrk⟩, rfl, rfl⟩)
  · rcases hx with ⟨h1, e⟩ | ⟨h1, h2, h3⟩ | ⟨h1, h2, h3⟩
    · exact .inl ⟨by (exact a457 h1), e ▸ x4_bad h1 hrk⟩
    · exact .inl ⟨h2, h3⟩
    · exact .inr ⟨h1, h3⟩
  rintro _ _ ⟨x, hx, rfl, rfl⟩
  refine ws_ifm (fun ρ σ => ∃ x v7 v8, (((way < 14 ∨ way = 19) ∧ BadX x) ∨ ((14 ≤ way ∧ way < 19) ∧ x = lineOf r)) ∧ σ = σ1 a ((L.set j x).map V.str) ∧ ρ = SR rs way j cell (.ref a) r v7 v8 .unb) (tr_cmp (ev_var 1 rfl) ev_int cm_eqi) (fun h => ?_) (fun h => ws_nil ⟨x, .unb, .unb, ?_, rfl, rfl⟩) ?_
  · have hq := emod_nn cell (m := ((dec r.2).length : Nat)) (by (exact a459 hdp))
    refine ws_asg 7 (ev_strI (ev_row1 (r := r) (ev_idxl (ev_var 0 rfl) (ev_var 2 rfl) (n0 j) (by (exact a461 hj hn)) (by rw [Int.toNat_natCast]; exact row_map _ hr))) (Nat.lt_trans hrk.2.2 (by decide +kernel))) (ws_asg 8 (ev_add ev_int (ev_mod (ev_var 3 rfl) (ev_lens (ev_var 7 rfl) (by (exact a465 hdl))) (by (exact a459 hdp)))) (ws_line hjL hnL (ev_var 4 rfl) (ev_var 2 rfl) (e_mid (ev_var 7 rfl) (ev_var 8 rfl) (ev_lit [45]) (ev_var 7 rfl) (ev_var 8 rfl) (ev_var 5 rfl) (by (exact a473 hq)) (by (exact a474 hdl)) (by (exact a476 hnl))) (ws_nil ⟨_, _, _, .inl ⟨.inr (way_eq (n := 19) h), mid_bad hrk (by decide) (.inr (by (exact a480 h hq))) (by decide) (by decide)⟩, rfl, rfl⟩)))
  · have := way_ne (n := 19) h
    rcases hx with ⟨h1, h2⟩ | ⟨h1, h2⟩
    · exact .inl ⟨.inl h1, h2⟩
    · exact .inr ⟨by (exact a484 h1 hw this), h2⟩
  rintro _ _ ⟨x, v7, v8, hx, rfl, rfl⟩
  refine ws_ifm (fun ρ σ => ∃ x v7 v8 v9, ((way ≠ 14 ∧ BadX x) ∨ (way = 14 ∧ x = lineOf r)) ∧ σ = σ1 a ((L.set j x).map V.str) ∧ ρ = SR rs way j cell (.ref a) r v7 v8 v9) (tr_bop (trl_and (tr_cmp (ev_var 1 rfl) ev_int cm_gt) fun _ => trl_one (tr_cmp (ev_var 1 rfl) ev_int cm_lt))) (fun h => ?_) (fun h => ws_nil ⟨x, v7, v8, .unb, ?_, rfl, rfl⟩) ?_
  · obtain ⟨h1, h2⟩ := Bool.and_eq_true_iff.mp h
    have h1 := of_decide_eq_true h1
    have h2 := of_decide_eq_true h2
    obtain ⟨f1, f2, f3, f4⟩ := noFig_ok cell
    have hq := emod_nn (cell / 94) (m := ((dec r.2).length : Nat) + 1) (by (exact a487 ))
    refine ws_asg 7 (ev_strI (ev_row1 (r := r) (ev_idxl (ev_var 0 rfl) (ev_var 2 rfl) (n0 j) (by (exact a461 hj hn)) (by rw [Int.toNat_natCast]; exact row_map _ hr))) (Nat.lt_trans hrk.2.2 (by decide +kernel))) (ws_asg 8 (ev_mod (ev_fdiv (ev_var 3 rfl) ev_int (by decide) (by decide)) (ev_add (ev_lens (ev_var 7 rfl) (by (exact a465 hdl))) ev_int) (by (exact a487 ))) (ws_asg 9 (ev_call (c_no_figure C (by (exact a497 hd))) (evl_cons (ev_var 3 rfl) evl_nil)) (ws_line hjL hnL (ev_var 4 rfl) (ev_var 2 rfl) (e_mid (ev_var 7 rfl) (ev_var 8 rfl) (ev_var 9 rfl) (ev_var 7 rfl) (ev_var 8 rfl) (ev_var 5 rfl) (by (exact hq)) (by (exact a474 hdl)) (by (exact a476 hnl))) (ws_nil ⟨_, _, _, _, .inl ⟨by (first | lia | omega), mid_bad hrk f1 (.inl f2) f3 f4⟩, rfl, rfl⟩))))
  · have h := Bool.and_eq_false_iff.mp h
    rw [decide_eq_false_iff_not, decide_eq_false_iff_not] at h
    rcases hx with ⟨h1, h2⟩ | ⟨h1, h2⟩
    · exact .inl ⟨by (exact a501 h1 h), h2⟩
    · exact .inr ⟨by (exact a502 h1 h), h2⟩
  rintro _ _ ⟨x, v7, v8, v9, hx, rfl, rfl⟩
  have hxl : x.length ≤ 1000 := by
    rcases hx with ⟨_, h⟩ | ⟨_, h⟩
    · exact h.len
    · rw [h]; (exact a503 hlr)
  have hml : ∀ t ∈ L.set j x, t.length ≤ 1000 := fun t ht => (List.mem_or_eq_of_mem_set ht).elim hsz fun e => e ▸ hxl
  have hnl2 : (L.set j x).length ≤ 900 := by rw [List.length_set, ← hL, List.length_map]; (exact a504 hn)
  refine spoilt_tail (L := L.set j x) rfl hnl2 hml (fun h1 h2 h3 h4 h5 => ev_joino h1 h2 (σ1_self ..) (by (exact a541 hnl2)) hml (by decide) h3 h4 h5) (fun h => ?_) (fun h => ?_)
  · have : x = lineOf r := by
      rcases hx with ⟨h', _⟩ | ⟨_, h'⟩
      · exact absurd h h'
      · exact h'
    rw [this, hid, ← hL]
    exact sp_last hok hn (fun e => by rw [e] at hj; exact absurd hj (Nat.not_lt_zero _))
  · have : BadX x := by
      rcases hx with ⟨_, h'⟩ | ⟨h', _⟩
      · exact h'
      · exact absurd h' h
    rw [← hL]
    exact sp_row hs hok hn hj this
end
end Mine

set_option autoImplicit false
set_option linter.all false
set_option maxRecDepth 100000
namespace Mine
open PySem PySem.W PyProof.Rows
theorem drop_app {α : Type} {a b : List α} {n : Nat} (h : a.length = n) : (a ++ b).drop n = b := by rw [← h]; exact List.drop_left
theorem take_app {α : Type} {a b : List α} {n : Nat} (h : a.length = n) : (a ++ b).take n = a := by rw [← h]; exact List.take_left
theorem get_app {α : Type} {a b : List α} {x : α} {n : Nat} (h : a.length = n) : (a ++ x :: b)[n]? = some x := by rw [← h, List.getElem?_append_right (Nat.le_refl _), Nat.sub_self]; rfl
section
variable {G : Gl}
theorem tail13 {rs : List Rw} {j : Nat} {cell : Int} {r : Row} {σ : Ow} {M : List (List Nat)} (hn : M.length ≤ 900) (hl : ∀ t ∈ M, t.length ≤ 1000) (hsp : Spoilt (joinL [10] M ++ [10])) :
    WS G K_law_spoilt (B_law_spoilt.drop 8) (SR rs 13 j cell (.lst (M.map V.str)) r .unb .unb .unb) σ (retP SpV) := by
  refine ws_if (b := false) (tr_bop (trl_and (b := false) (c := false) (tr_cmp (ev_var 1 rfl) ev_int cm_eqi) nofun)) nofun fun _ => ws_nil ?_
  refine ws_if (b := false) (tr_cmp (ev_var 1 rfl) ev_int cm_eqi) nofun fun _ => ws_nil ?_
  refine ws_if (b := false) (tr_bop (trl_and (b := false) (c := false) (tr_cmp (ev_var 1 rfl) ev_int cm_gt) nofun)) nofun fun _ => ws_nil ?_
  exact spoilt_tail (L := M) rfl hn hl (fun h1 h2 h3 h4 h5 => ev_joinl h1 h2 (by (exact a541 hn)) hl (by decide) h3 h4 h5) nofun fun _ => hsp
theorem spoilt13 {rs : List Rw} (hs : Srt rs) (hok : ∀ r ∈ rs, RwOk r) (hn : rs.length ≤ 150) {j : Nat} {r : Rw} (hr : rs[j]? = some r) {cell : Int} {a : Addr} :
    WS G K_law_spoilt (B_law_spoilt.drop 7) (SR rs 13 j cell (.ref a) r .unb .unb .unb) (σ1 a ((rs.map lineOf).map V.str)) (retP SpV) := by
  have hrk := hok r (List.mem_of_getElem? hr)
  have hj : j < rs.length := (List.getElem?_eq_some_iff.mp hr).1
  have hLr : ((rs.map lineOf).map V.str)[(j : Int).toNat]? = some (.str (lineOf r)) := by rw [Int.toNat_natCast, List.getElem?_map, List.getElem?_map, hr]; rfl
  have hXl : ((rs.map lineOf).map V.str).length = rs.length := by rw [List.length_map, List.length_map]
  have e1 : (slice ((rs.map lineOf).map V.str) none (some (j : Int)) ++ [V.str (lineOf r)]) ++ slice ((rs.map lineOf).map V.str) (some (j : Int)) none = (((rs.take j).map lineOf ++ [lineOf r]) ++ (rs.drop j).map lineOf).map V.str := by
    rw [slice_hi _ (n0 j), slice_lo _ (n0 j), Int.toNat_natCast, List.map_append, List.map_append, ← List.map_take, ← List.map_take, ← List.map_drop, ← List.map_drop]; rfl
  have hsl : ∀ m n, (slice ((rs.map lineOf).map V.str) m n).length ≤ 150 := fun m n => by
    unfold slice
    rw [List.length_drop, List.length_take, hXl]
    (exact a440 hn)
  refine ws_if (b := true) (tr_cmp (ev_var 1 rfl) ev_int cm_eqi) (fun _ => ?_) nofun
  refine ws_asg 4 ((ev_addl (ev_addl (ev_slco (ev_var 4 rfl) (σ1_self ..) evo_none (evo_some (ev_var 2 rfl)) (by rw [hXl, szL]; (exact a455 hn))) (ev_list (evl_cons (ev_idxo (ev_var 4 rfl) (ev_var 2 rfl) (σ1_self ..) (n0 j) (by (exact a461 hj hn)) hLr) evl_nil) sz1) ?_) (ev_slco (ev_var 4 rfl) (σ1_self ..) (evo_some (ev_var 2 rfl)) evo_none (by rw [hXl, szL]; (exact a455 hn))) ?_).to (congrArg V.lst e1)) ?_
  · have := hsl none (some (j : Int))
    show _ + 1 ≤ _; rw [szL]; (exact a556 this)
  · have := hsl none (some (j : Int))
    have := hsl (some (j : Int)) none
    rw [List.length_append, szL]; show _ + 1 + _ ≤ _; (exact a557 ‹_› this)
  have lz : ∀ {t : List Nat}, t ∈ rs.map lineOf → t.length ≤ 1000 ∧ 10 ∉ t := fun ht => lines_sz hok ht
  have tz : ∀ {t : List Nat} {n : Nat}, t ∈ (rs.take n).map lineOf → t.length ≤ 1000 ∧ 10 ∉ t := fun ht => lines_sz (fun r hr => hok r (List.mem_of_mem_take hr)) ht
  have dz : ∀ {t : List Nat} {n : Nat}, t ∈ (rs.drop n).map lineOf → t.length ≤ 1000 ∧ 10 ∉ t := fun ht => lines_sz (fun r hr => hok r (List.mem_of_mem_drop hr)) ht
  refine ws_ifm (fun ρ σ => ∃ M : List (List Nat), (M.length ≤ 900 ∧ (∀ t ∈ M, t.length ≤ 1000) ∧ Spoilt (joinL [10] M ++ [10])) ∧ ρ = SR rs 13 j cell (.lst (M.map V.str)) r .unb .unb .unb) (tr_cmp (ev_var 2 rfl) ev_int cm_gt) (fun h => ?_) (fun h => ?_) ?_
  · have h := of_decide_eq_true h
    obtain ⟨i, rfl⟩ : ∃ i, j = i + 1 := ⟨j - 1, by (exact a558 ‹_›)⟩
    have hi : i < rs.length := by (exact a93 hj)
    obtain ⟨_, er⟩ := List.getElem?_eq_some_iff.mp hr
    have ed : rs.drop (i + 1) = r :: rs.drop (i + 1 + 1) := by rw [List.drop_eq_getElem_cons hj, er]
    have et : rs.take (i + 1) = rs.take i ++ [rs[i]] := List.take_succ_eq_append_getElem hi
    have hlt : rs[i].1 < r.1 := er ▸ List.pairwise_iff_getElem.mp hs i (i + 1) hi hj (by (exact a439 ))
    have hpk := hok rs[i] (List.getElem_mem hi)
    have hal : (((rs.take i).map lineOf).map V.str).length = i := by rw [List.length_map, List.length_map, List.length_take]; (exact a68 hj)
    have eM : (((rs.take (i + 1)).map lineOf ++ [lineOf r]) ++ (rs.drop (i + 1)).map lineOf).map V.str = ((rs.take i).map lineOf).map V.str ++ V.str (lineOf rs[i]) :: V.str (lineOf r) :: V.str (lineOf r) :: ((rs.drop (i + 1 + 1)).map lineOf).map V.str := by
      rw [ed, et]
      generalize rs.take i = U
      generalize rs.drop (i + 1 + 1) = W
      simp
    rw [eM]
    generalize hA : ((rs.take i).map lineOf).map V.str = A at *
    generalize hB : ((rs.drop (i + 1 + 1)).map lineOf).map V.str = B at *
    have hbl : B.length ≤ 150 := by rw [← hB, List.length_map, List.length_map, List.length_drop]; (exact a563 hj hn)
    have hXX : (A ++ V.str (lineOf rs[i]) :: V.str (lineOf r) :: V.str (lineOf r) :: B).length ≤ 400 := by rw [List.length_append, hal]; show _ + (B.length + 1 + 1 + 1) ≤ _; (exact a564 hj hbl hn)
    have g1 : slice (A ++ V.str (lineOf rs[i]) :: V.str (lineOf r) :: V.str (lineOf r) :: B) none (some (((i + 1 : Nat) : Int) - 1)) = A := by
      rw [slice_hi _ (by (exact a565 )), show ((((i + 1 : Nat) : Int) - 1).toNat) = i by (exact a566 ), take_app hal]
    have g2 : slice (A ++ V.str (lineOf rs[i]) :: V.str (lineOf r) :: V.str (lineOf r) :: B) (some (((i + 1 : Nat) : Int) + 2)) none = B := by
      rw [slice_lo _ (by (exact a568 )), show ((((i + 1 : Nat) : Int) + 2).toNat) = i + 3 by (exact a569 ), show A ++ V.str (lineOf rs[i]) :: V.str (lineOf r) :: V.str (lineOf r) :: B = (A ++ [V.str (lineOf rs[i]), V.str (lineOf r), V.str (lineOf r)]) ++ B by simp]
      exact drop_app (by rw [List.length_append, hal]; rfl)
    have g3 : (A ++ V.str (lineOf rs[i]) :: V.str (lineOf r) :: V.str (lineOf r) :: B)[((i + 1 : Nat) : Int).toNat]? = some (V.str (lineOf r)) := by
      rw [Int.toNat_natCast, show A ++ V.str (lineOf rs[i]) :: V.str (lineOf r) :: V.str (lineOf r) :: B = (A ++ [V.str (lineOf rs[i])]) ++ V.str (lineOf r) :: V.str (lineOf r) :: B by simp]
      exact get_app (by rw [List.length_append, hal]; rfl)
    have g4 : (A ++ V.str (lineOf rs[i]) :: V.str (lineOf r) :: V.str (lineOf r) :: B)[(((i + 1 : Nat) : Int) - 1).toNat]? = some (V.str (lineOf rs[i])) := by
      rw [show ((((i + 1 : Nat) : Int) - 1).toNat) = i by (exact a566 )]
      exact get_app hal
    have eF : (A ++ [V.str (lineOf r), V.str (lineOf rs[i])]) ++ B = (((rs.take i ++ [r]).map lineOf) ++ lineOf rs[i] :: (rs.drop (i + 1 + 1)).map lineOf).map V.str := by
      rw [← hA, ← hB]; simp
    refine ws_asg 4 ((ev_addl (ev_addl ((ev_slcl (ev_var 4 rfl) evo_none (evo_some (ev_sub (ev_var 2 rfl) ev_int)) (by rw [szL]; (exact a580 hXX))).to (congrArg V.lst g1)) (ev_list (evl_cons (ev_idxl (ev_var 4 rfl) (ev_var 2 rfl) (n0 _) (by (exact a581 hj hn)) g3) (evl_cons (ev_idxl (ev_var 4 rfl) (ev_sub (ev_var 2 rfl) ev_int) (by (exact a565 )) (by (exact a584 hj hn)) g4) evl_nil)) sz2) ?_) ((ev_slcl (ev_var 4 rfl) (evo_some (ev_add (ev_var 2 rfl) ev_int)) evo_none (by rw [szL]; (exact a580 hXX))).to (congrArg V.lst g2)) ?_).to (congrArg V.lst eF)) (ws_nil ⟨_, ⟨?_, ?_, ?_⟩, rfl⟩)
    · rw [hal, szL]; show i + 2 ≤ _; (exact a586 hj hn)
    · rw [List.length_append, hal, szL]; show i + 2 + _ ≤ _; (exact a587 hj hbl hn)
    · rw [List.length_append, List.length_map, List.length_append]
      show (rs.take i).length + 1 + (((rs.drop (i + 1 + 1)).map lineOf).length + 1) ≤ 900
      rw [List.length_map, List.length_take, List.length_drop]; (exact a590 hj hn)
    · intro t ht
      rw [List.map_append] at ht
      rcases List.mem_append.mp ht with h | h
      · rcases List.mem_append.mp h with h | h
        · exact (tz h).1
        · rw [List.mem_singleton.mp h]; exact Nat.le_trans (line_len hrk) (by decide)
      · exact (List.mem_cons.mp h).elim (fun e => e ▸ Nat.le_trans (line_len hpk) (by decide)) fun h => (dz h).1
    · refine sp_rise (rest := (rs.drop (i + 1 + 1)).map lineOf) ?_ (fun q hq => ?_) hpk (List.lt_asymm hlt) (by rw [List.length_take, List.length_map, List.length_drop]; (exact a591 hj hn)) fun t ht => dz ht
      · refine List.pairwise_append.mpr ⟨List.Pairwise.sublist (List.take_sublist ..) hs, List.pairwise_singleton .., fun q hq z hz => ?_⟩
        cases List.mem_singleton.mp hz
        obtain ⟨k, hk, rfl⟩ := List.getElem_of_mem hq
        rw [List.getElem_take]
        have hk' : k < i := by rw [List.length_take] at hk; (exact a594 hk)
        exact er ▸ List.pairwise_iff_getElem.mp hs k (i + 1) (by (exact a595 hj hk')) hj (by (exact a429 hk'))
      · rcases List.mem_append.mp hq with h | h
        · exact hok q (List.mem_of_mem_take h)
        · rw [List.mem_singleton.mp h]; exact hrk
  · have h := of_decide_eq_false h
    obtain rfl : j = 0 := by (first | lia | omega)
    have ed : rs = r :: rs.drop 1 := by
      obtain ⟨_, er⟩ := List.getElem?_eq_some_iff.mp hr
      rw [← er]
      exact (List.drop_zero (l := rs)).symm.trans (List.drop_eq_getElem_cons hj)
    refine ws_nil ⟨((rs.take 0).map lineOf ++ [lineOf r]) ++ (rs.drop 0).map lineOf, ⟨?_, ?_, ?_⟩, rfl⟩
    · rw [List.length_append, List.length_append, List.length_map, List.length_map, List.length_take, List.length_drop]; show _ + 1 + _ ≤ _; (exact a597 hn)
    · intro t ht
      rcases List.mem_append.mp ht with h | h
      · rcases List.mem_append.mp h with h | h
        · exact (tz h).1
        · rw [List.mem_singleton.mp h]; exact Nat.le_trans (line_len hrk) (by decide)
      · exact (dz h).1
    · have := sp_rise (rs := []) (rest := (rs.drop 1).map lineOf) (p := r) (r := r) (List.pairwise_singleton ..) (fun q hq => by rw [List.mem_singleton.mp hq]; exact hrk) hrk (List.lt_irrefl _) (by rw [List.length_map, List.length_drop]; show 0 + _ ≤ _; (exact a598 hj hn)) fun t ht => dz ht
      have e : (rs.take 0).map lineOf ++ [lineOf r] ++ (rs.drop 0).map lineOf = ([] ++ [r]).map lineOf ++ lineOf r :: (rs.drop 1).map lineOf := by
        rw [List.drop_zero]
        conv => lhs; rw [ed]
        rfl
      rw [e]; exact this
  · rintro ρ σ ⟨M, ⟨h1, h2, h3⟩, rfl⟩
    exact ws_nil (tail13 h1 h2 h3)
end
end Mine

set_option autoImplicit false
set_option linter.all false
set_option maxRecDepth 100000
namespace Mine
open PySem PySem.W PyProof.Rows
theorem hds_get {way : Nat} (hw : way < 10) : (hds.map V.str)[((way : Nat) : Int).toNat]? = some (V.str (hds.getD way [])) ∧ (hds.getD way []).length ≤ 100 := by
  rw [Int.toNat_natCast]
  match way, hw with
  | 0, _ | 1, _ | 2, _ | 3, _ | 4, _ | 5, _ | 6, _ | 7, _ | 8, _ | 9, _ => exact ⟨rfl, by decide +kernel⟩
theorem sw_list {es : List PySem.Expr} {p : Pos} {t : Option PySem.Expr} {l : Nat} {env : Env} : swapsWith (.List es p) t l env = pure false := rfl
def asgE : List Stmt → PySem.Expr
  | .Assign _ e _ :: _ => e
  | _ => .Constant .none 0 default
theorem asg_drop {ss : List Stmt} {t : List PySem.Expr} {e : PySem.Expr} {p : Pos} {r : List Stmt} (h : ss = .Assign t e p :: r) : ss = .Assign t (asgE ss) p :: r := by subst h; rfl
section
variable {G : Gl}
/-! the list display of ten is stated behind an "and": otherwise its evaluation is unfolded at each step -/
theorem evl_consW {K : Sx} {ρ : List V} {σ : Ow} {e : PySem.Expr} {es : List PySem.Expr} {x : V} {xs : List V} (h : Ev G K ρ σ e x) (h2 : True ∧ EvL G K ρ σ es xs) : True ∧ EvL G K ρ σ (e :: es) (x :: xs) := ⟨trivial, evl_cons h h2.2⟩
theorem ev_listW {K : Sx} {ρ : List V} {σ : Ow} {es : List PySem.Expr} {xs : List V} (p : Pos) (h : True ∧ EvL G K ρ σ es xs) (hl : xs.length ≤ sizeLine) (hs : es.all notStar = true) : True ∧ Ev G K ρ σ (.List es p) (.lst xs) := ⟨trivial, ev_list h.2 hl hs⟩
def posL : PySem.Expr → Pos
  | .List _ p => p
  | _ => default
theorem hds_len : (hds.map V.str).length ≤ sizeLine := by rw [szL]; decide
def elL : PySem.Expr → List PySem.Expr
  | .List es _ => es
  | _ => []
theorem e_elems {ρ : List V} {σ : Ow} : True ∧ EvL G K_law_spoilt ρ σ (elL (asgE (B_law_spoilt.drop 2))) (hds.map V.str) :=
  evl_consW (ev_lit (lit "00 ")) (evl_consW (ev_lit (lit "-0 ")) (evl_consW (ev_lit (lit "+1 ")) (evl_consW (ev_lit (lit "1x ")) (evl_consW (ev_lit (lit "- ")) (evl_consW (ev_lit (lit "-01 ")) (evl_consW (ev_adds (ev_rep (c := 49) (n := 61) (ev_lit [49]) ev_int (by decide) (by decide)) (ev_lit [32]) (by decide +kernel)) (evl_consW (ev_lit (lit " 1 ")) (evl_consW (ev_lit []) (evl_consW (ev_lit (lit "0x1 ")) ⟨trivial, evl_nil⟩)))))))))
theorem e_heads {ρ : List V} {σ : Ow} : True ∧ Ev G K_law_spoilt ρ σ (asgE (B_law_spoilt.drop 2)) (.lst (hds.map V.str)) := ev_listW (posL (asgE (B_law_spoilt.drop 2))) e_elems hds_len rfl
theorem ws_asgW (i : Nat) {K : Sx} {ρ : List V} {σ : Ow} {Q : KS} {ss r : List Stmt} {n : Str} {q p q' : Pos} {x : V} {es : List PySem.Expr} (hss : ss = .Assign [.Name n q] (.List es q') p :: r) (h1 : True ∧ Ev G K ρ σ (asgE ss) x) (h2 : WS G K r (ρ.set i x) σ Q) (hx : nameOK K i n = true) : True ∧ WS G K ss ρ σ Q := by
  subst hss
  exact ⟨trivial, ws_asg i h1.2 h2 hx fun _ _ => sw_list⟩
theorem ws_heads {ρ : List V} {σ : Ow} {Q : KS} (h : WS G K_law_spoilt (B_law_spoilt.drop 3) (ρ.set 6 (.lst (hds.map V.str))) σ Q) : True ∧ WS G K_law_spoilt (B_law_spoilt.drop 2) ρ σ Q :=
  ws_asgW (ss := B_law_spoilt.drop 2) 6 (n := "_law_heads") (r := B_law_spoilt.drop 3) rfl e_heads h (by decide +kernel)
theorem c_spoilt (C : C11 G) {rs : List Rw} (hs : Srt rs) (hok : ∀ r ∈ rs, RwOk r) (hn : rs.length ≤ 150) {way j : Nat} (hw : way < 20) (hj : j < rs.length) {cell : Int} (hd : 5 ≤ G.d) : PureP G "_law_spoilt" [.lst (rs.map RowV), .int way, .int j, .int cell] SpV := by
  have hr : rs[j]? = some rs[j] := List.getElem?_eq_getElem hj
  generalize rs[j] = r at hr
  have hrk := hok r (List.mem_of_getElem? hr)
  have hjL : j < (rs.map lineOf).length := by rw [List.length_map]; exact hj
  have hnL : (rs.map lineOf).length ≤ 1000 := by rw [List.length_map]; (exact a438 hn)
  have hlr := line_len hrk
  have hnl := hrk.1
  have hid : (rs.map lineOf).set j (lineOf r) = rs.map lineOf := by
    obtain ⟨h1, h2⟩ := List.getElem?_eq_some_iff.mp (show (rs.map lineOf)[j]? = some (lineOf r) by rw [List.getElem?_map, hr]; rfl)
    rw [← h2]; exact List.set_getElem_self h1
  suffices tail : ∀ a : Addr, WS G.dn K_law_spoilt (B_law_spoilt.drop 3) (SR rs way j cell (.ref a) r .unb .unb .unb) (σ1 a ((rs.map lineOf).map V.str)) (retP SpV) by
    refine purep_of C.spoilt rfl (by (exact a442 hd)) (ws_asg_compO 4 (caps := []) (Fv := RowV) (ts := rs) (fun r => some (.str (lineOf r))) (ev_var 0 rfl) rfl (by rw [szL]; (exact a455 hn)) (fun r hr => turn_all (ev_line (ev_var 0 rfl) (ev_var 0 rfl) (hok r hr))) fun a _ => ?_)
    obtain ⟨_, t2⟩ := ws_heads (G := G.dn) (ρ := [.lst (rs.map RowV), .int way, .int j, .int cell, .ref a, .str r.1, .unb, .unb, .unb, .unb, .unb]) (tail a)
    rw [fm_map]
    refine ws_asg 5 (ev_row0 (r := r) (ev_idxl (ev_var 0 rfl) (ev_var 2 rfl) (n0 j) (by (exact a461 hj hn)) (by rw [Int.toNat_natCast]; exact row_map _ hr))) ?_
    assumption
  intro a
  have last : ∀ x, S4 way r 13 x → WS G.dn K_law_spoilt (B_law_spoilt.drop 7) (SR rs way j cell (.ref a) r .unb .unb .unb) (σ1 a (((rs.map lineOf).set j x).map V.str)) (retP SpV) := by
    intro x hx
    by_cases h13 : way = 13
    · subst h13
      rw [hx.here rfl (by decide), hid]
      exact spoilt13 hs hok hn hr
    · refine ws_if (b := false) (Tr.to (tr_cmp (ev_var 1 rfl) ev_int cm_eqi) ?_) nofun fun _ => ws_nil (spoilt_rest C.dn (by show 3 ≤ G.d - 1; (exact a463 hd)) hs hok hn hw hr (hx.next h13))
      exact beq_eq_false_iff_ne.mpr fun e => h13 (Int.ofNat_inj.mp e)
  have hstr : ∀ {ρ : List V} {σ : Ow} {e₁ e₂ : PySem.Expr} {k : Nat} {p₁ p₂ p₃ p₄ q : Pos}, Ev G.dn K_law_spoilt ρ σ e₁ (.lst (rs.map RowV)) → Ev G.dn K_law_spoilt ρ σ e₂ (.int j) → notSlice e₂ = true → Ev G.dn K_law_spoilt ρ σ (.Call (.Name "str" p₁) [.Subscript (.Subscript e₁ e₂ p₂) (.Constant (.int 1) k p₃) p₄] [] q) (.str (dec r.2)) := fun h1 h2 h3 => ev_strI (ev_row1 (r := r) (ev_idxl h1 h2 (n0 j) (by (exact a461 hj hn)) (by rw [Int.toNat_natCast]; exact row_map _ hr) h3)) (Nat.lt_trans hrk.2.2 (by decide +kernel))
  rw [← hid]
  generalize hL : rs.map lineOf = L at *
  have P (n : Nat) : List V → Ow → Prop := fun ρ σ => ∃ x, S4 way r n x ∧ σ = σ1 a ((L.set j x).map V.str) ∧ ρ = SR rs way j cell (.ref a) r .unb .unb .unb
  refine ws_ifm (fun ρ σ => ∃ x, S4 way r 10 x ∧ σ = σ1 a ((L.set j x).map V.str) ∧ ρ = SR rs way j cell (.ref a) r .unb .unb .unb) (tr_cmp (ev_var 1 rfl) ev_int cm_lt) (fun h => ?_) (fun h => ws_nil ⟨lineOf r, .inr (.inr ?_), rfl, rfl⟩) ?_
  · have h10 : way < 10 := by have := of_decide_eq_true h; (exact a466 h)
    obtain ⟨g1, g2⟩ := hds_get h10
    refine ws_line hjL hnL (ev_var 4 rfl) (ev_var 2 rfl) (ev_adds (ev_idxl (ev_var 6 rfl) (ev_var 1 rfl) (n0 way) (by (exact a469 h)) g1) (ev_var 5 rfl) (by rw [szL]; (exact a472 g2 hnl))) ?_
    refine ws_if (tr_cmp (ev_var 1 rfl) ev_int cm_eqi) (fun h8 => ws_line hjL hnL (ev_var 4 rfl) (ev_var 2 rfl) (ev_lit []) (ws_nil (ws_nil ⟨[], .inl ⟨h10, ?_⟩, rfl, rfl⟩))) (fun h8 => ws_nil (ws_nil ⟨_, .inl ⟨h10, ?_⟩, rfl, rfl⟩))
    · unfold x4; rw [if_pos (way_eq (n := 8) h8)]
    · unfold x4; rw [if_neg (way_ne (n := 8) h8)]
  · have := of_decide_eq_false h
    exact ⟨by (first | lia | omega), by (first | lia | omega), rfl⟩
  rintro _ _ ⟨x, hx, rfl, rfl⟩
  refine ws_ifm (fun ρ σ => ∃ x, S4 way r 11 x ∧ σ = σ1 a ((L.set j x).map V.str) ∧ ρ = SR rs way j cell (.ref a) r .unb .unb .unb) (tr_cmp (ev_var 1 rfl) ev_int cm_eqi) (fun h => ?_) (fun h => ws_nil ⟨x, hx.next (way_ne (n := 10) h), rfl, rfl⟩) ?_
  · have h10 := way_eq (n := 10) h
    exact ws_line hjL hnL (ev_var 4 rfl) (ev_var 2 rfl) (hstr (ev_var 0 rfl) (ev_var 2 rfl) rfl) (ws_nil ⟨_, .inr (.inl ⟨by (exact a488 h), by (exact a489 h), dec_only hrk⟩), rfl, rfl⟩)
  rintro _ _ ⟨x, hx, rfl, rfl⟩
  refine ws_ifm (fun ρ σ => ∃ x, S4 way r 12 x ∧ σ = σ1 a ((L.set j x).map V.str) ∧ ρ = SR rs way j cell (.ref a) r .unb .unb .unb) (tr_cmp (ev_var 1 rfl) ev_int cm_eqi) (fun h => ?_) (fun h => ws_nil ⟨x, hx.next (way_ne (n := 11) h), rfl, rfl⟩) ?_
  · have h11 := way_eq (n := 11) h
    have e := hx.here h11 (by decide)
    subst e
    refine ws_line hjL hnL (ev_var 4 rfl) (ev_var 2 rfl) (ev_adds (ev_at hjL hnL (ev_var 4 rfl) (ev_var 2 rfl)) (ev_lit [9]) (by rw [szL]; show _ + 1 ≤ _; (exact a470 hlr))) (ws_nil ⟨_, .inr (.inl ⟨by (exact a493 h), by (exact a494 h), line_more hrk ?_ (by decide) (by decide)⟩), rfl, rfl⟩)
    unfold okN
    rw [List.all_append, show ([9].all okS) = false from rfl, Bool.and_false, Bool.and_false]
  rintro _ _ ⟨x, hx, rfl, rfl⟩
  refine ws_ifm (fun ρ σ => ∃ x, S4 way r 13 x ∧ σ = σ1 a ((L.set j x).map V.str) ∧ ρ = SR rs way j cell (.ref a) r .unb .unb .unb) (tr_cmp (ev_var 1 rfl) ev_int cm_eqi) (fun h => ?_) (fun h => ws_nil ⟨x, hx.next (way_ne (n := 12) h), rfl, rfl⟩) ?_
  · have h12 := way_eq (n := 12) h
    have e := hx.here h12 (by decide)
    subst e
    refine ws_line hjL hnL (ev_var 4 rfl) (ev_var 2 rfl) (ev_adds (ev_at hjL hnL (ev_var 4 rfl) (ev_var 2 rfl)) (ev_rep (c := 97) (n := 41) (ev_lit [97]) ev_int (by decide) (by decide)) (by rw [szL, List.length_replicate]; (exact a507 hlr))) (ws_nil ⟨_, .inr (.inl ⟨by (exact a508 h), by (exact a509 h), line_more hrk ?_ (by rw [List.length_replicate]; decide) (by decide +kernel)⟩), rfl, rfl⟩)
    unfold okN
    rw [List.length_append, List.length_replicate, decide_eq_false (by (exact a511 )), Bool.false_and]
  rintro _ _ ⟨x, hx, rfl, rfl⟩
  exact last x hx
theorem sp_one {t : List Nat} (h : t ≠ []) (h1 : t.length ≤ 1000) (h2 : 10 ∉ t) : Spoilt t := .last [] t ⟨by decide, nofun, nofun⟩ h1 h2 h (by show t = t ++ []; rw [List.append_nil])
theorem sp_lf : Spoilt [10] := .row [] [] [] .nil nofun ⟨by decide, fun t ht => by rw [List.mem_singleton.mp ht]; decide, fun t ht => by rw [List.mem_singleton.mp ht]; decide⟩ (.noblank nofun) rfl
theorem law11 (C : C11 G) (hG : 600 ≤ G.d) {zs : List Int} (hz : zs.length ≤ 63) : WS G K_law B_law (.scr (zs.map .int) :: List.replicate (K_law.ns.length - 1) .unb) σ0 (retQ (.bool true)) := by
  refine ws_asgP 1 (c_rows_by (n := countBy (zs.getD (0 : Int).toNat 0)) C.r C.rows_by hz (by decide) (countBy_le _) (by (exact a444 hG))) (evl_cons (ev_var 0 rfl) (evl_cons ev_int (evl_cons (ev_call (c_count_by C.count_by (by (exact a513 hG))) (evl_cons (ev_call (c_cell_at C.r.cell hz (by decide) (by (exact a513 hG))) (evl_cons (ev_var 0 rfl) (evl_cons ev_int evl_nil))) evl_nil)) evl_nil))) ?_
  rintro _ ⟨rs, O, rfl⟩
  have hon := O.num
  have hol : (rs.map RowV).length = rs.length := List.length_map ..
  have hg := O.good (f := 41) (by decide) (by decide)
  have cell1 := c_cell_at C.r.cell hz (k := 1) (by decide) (by (exact a513 hG))
  have cell2 := c_cell_at C.r.cell hz (k := 2) (by decide) (by (exact a513 hG))
  generalize zs.getD (1 : Int).toNat 0 = c at cell1
  generalize zs.getD (2 : Int).toNat 0 = d at cell2
  have el : joinL [] (rs.map fun r => lineOf r ++ [10]) = joinL [10] (rs.map lineOf ++ [[]]) := by
    rw [← joinL_lines, List.map_map]; rfl
  have W := c_written C hg O.ok (by (exact a516 hG))
  rw [el] at W
  refine ws_asg 2 (ev_joinl (ts := rs.map fun r => lineOf r ++ [10]) (ev_lit []) (Ev.to (ev_comp (caps := []) (Fv := RowV) (ts := rs) (fun r => some (.str (lineOf r ++ [10]))) (ev_var 1 rfl) rfl (by rw [szL]; (exact a455 hon)) (fun r hr' => turn_all (ev_adds (ev_line (ev_var 0 rfl) (ev_var 0 rfl) (O.ok r hr')) (ev_lit [10]) ?_))) (congrArg V.lst (fm_map _ _))) (by rw [List.length_map]; (exact a438 hon)) (fun t ht => ?_) (by decide)) ?_
  · have := line_len (O.ok r hr')
    show _ + 1 ≤ _; rw [szL]; (exact a470 this)
  · obtain ⟨r, hr', rfl⟩ := List.mem_map.mp ht
    have := line_len (O.ok r hr')
    rw [List.length_append]; show _ + 1 ≤ _; (exact a471 this)
  rw [el]
  have TO := c_tree 41 C.tree hg (by (exact a550 hG))
  refine ws_asg 3 (ev_call W (evl_cons (ev_call TO (evl_cons (ev_var 1 rfl) evl_nil)) evl_nil)) ?_
  refine ws_if (b := false) (Tr.to (tr_bop (trl_or (tr_not (tr_ev (ev_inst 10 is_str_str (ev_var 3 rfl)))) fun _ => trl_one (tr_cmp (ev_var 3 rfl) (ev_var 2 rfl) cm_nes))) (by rw [beq_self_eq_true]; rfl)) nofun fun _ => ws_nil ?_
  refine ws_if (b := false) (tr_not (b := true) (tr_ev (ev_call (c_alike 124 C.alike C.whole (treeV_pl 41 (by (exact a438 hon))) (by (exact a577 hG))) (evl_cons (ev_call (c_read C hg O.ok (by (exact a504 hon)) (by (exact a578 hG))) (evl_cons (ev_var 2 rfl) evl_nil)) (evl_cons (ev_call TO (evl_cons (ev_var 1 rfl) evl_nil)) evl_nil))))) nofun fun _ => ws_nil ?_
  refine ws_if (tr_cmp (ev_var 1 rfl) (ev_list evl_nil sz0) cm_eq_nil) (fun _ => ?_) (fun h => ws_nil ?_)
  · have m0 := emod_nn c (m := 5) (by decide)
    have m1 := Int.emod_lt_of_pos c (b := 5) (by decide)
    have hT : ∃ t, ([[120], [32], [49], [10], [49, 32, 97]].map V.str)[(c % 5).toNat]? = some (V.str t) ∧ Spoilt t := by
      have : (c % 5).toNat < 5 := by (exact a585 )
      match (c % 5).toNat, this with
      | 0, _ => exact ⟨[120], rfl, sp_one nofun (by decide) (by decide)⟩
      | 1, _ => exact ⟨[32], rfl, sp_one nofun (by decide) (by decide)⟩
      | 2, _ => exact ⟨[49], rfl, sp_one nofun (by decide) (by decide)⟩
      | 3, _ => exact ⟨[10], rfl, sp_lf⟩
      | 4, _ => exact ⟨[49, 32, 97], rfl, sp_one nofun (by decide) (by decide)⟩
    obtain ⟨t, ht, hsp⟩ := hT
    exact ws_ret (ev_call (c_refused C hsp (by (exact a617 hG))) (evl_cons (ev_idxl (ev_list (evl_cons (ev_lit [120]) (evl_cons (ev_lit [32]) (evl_cons (ev_lit [49]) (evl_cons (ev_lit [10]) (evl_cons (ev_lit [49, 32, 97]) evl_nil))))) (by show 5 ≤ _; decide)) (ev_mod (ev_call cell1 (evl_cons (ev_var 0 rfl) (evl_cons ev_int evl_nil))) ev_int (by decide)) m0 (by (exact a618 )) ht) evl_nil)) (.id _)
  · have hne : rs ≠ [] := by
      rintro rfl
      exact absurd h (by decide)
    have hp : 0 < rs.length := List.length_pos_iff.mpr hne
    obtain ⟨j, ej, hj⟩ := nat_mod d rs.length (by (exact a545 hp))
    obtain ⟨way, ew, hw⟩ := nat_mod c 20 (by decide)
    refine ws_asg 4 ((ev_mod (ev_call cell2 (evl_cons (ev_var 0 rfl) (evl_cons ev_int evl_nil))) (ev_lenl (ev_var 1 rfl) (by rw [hol]; (exact a626 hon))) (by rw [hol]; (exact a545 hp))).to (by rw [hol, ej])) (ws_asg 5 (ev_call cell1 (evl_cons (ev_var 0 rfl) (evl_cons ev_int evl_nil))) (ws_ret (ev_callP (c_spoilt C O.srt O.ok hon (way := way) (j := j) (cell := c / 20) (by (exact a627 ew)) (by (exact a405 hj)) (by (exact a617 hG))) (evl_cons (ev_var 1 rfl) (evl_cons ((ev_mod (ev_var 5 rfl) ev_int (by decide)).to (by rw [ew])) (evl_cons (ev_var 4 rfl) (evl_cons (ev_fdiv (ev_var 5 rfl) ev_int (by decide) (by decide)) evl_nil)))) (c_refused C sp_lf (by (exact a617 hG))).is ?_) (.id _)))
    rintro _ ⟨t, rfl, hsp⟩
    exact c_refused C hsp (by (exact a617 hG))
end
end Mine

open PySem PySem.W PyProof.Rows
set_option Elab.async false
set_option maxRecDepth 100000
namespace Mine
theorem top_int {p : Program} {loose : List Str} {mean : ExcName → Option Value} {mg mb : Str → Option Value} {h : Heap} (T : Top p loose mean mg mb h) {x : Str} {i : Int} (hv : valOf p x = some (.int i)) : ∃ t, mg x = some (.int i t) := by
  obtain ⟨v, h1, r⟩ := T.const x _ hv
  have := r h
  cases this
  exact ⟨_, h1⟩
theorem top_str {p : Program} {loose : List Str} {mean : ExcName → Option Value} {mg mb : Str → Option Value} {h : Heap} (T : Top p loose mean mg mb h) {x a : Str} (hv : valOf p x = some (.str a)) : ∃ t, mg x = some (.str a t) := by
  obtain ⟨v, h1, r⟩ := T.const x _ hv
  have := r h
  cases this
  exact ⟨_, h1⟩
theorem fn_of {p : Program} {loose : List Str} {mean : ExcName → Option Value} {mg mb : Str → Option Value} {h : Heap} (T : Top p loose mean mg mb h) {f : Str} {K : Sx} {np : Nat} {B : List Stmt} (hk : recChk p f ⟨K.ns, np⟩ = true) (hs : (match recOf p f with | some d => d.scope | none => default) = K.sc) (hb : bodyOf p f = B) : FnAt h mg f K np B := by
  have := top_fn T hk
  rw [hb] at this
  have e : sxOf p f ⟨K.ns, np⟩ = K := by
    unfold sxOf
    unfold recChk at hk
    split at hk
    · rename_i d hd
      rw [hd] at hs
      cases K; cases hs; rfl
    · cases hk
  rw [e] at this
  exact this
def vw : Program := PySem.W.view PP [1, 2, 3, 4, 5, 6, 7, 8, 10, 11, 12, 13, 14, 15, 16, 18, 19, 20, 21, 23, 24, 25, 26, 27, 29, 30, 31, 32, 33, 34, 35, 36, 37, 38, 39, 40, 41]
def MR : List (Str × Str × Bool) := [("NoNote", "TrailError", true), ("NoNote", "NoName", false), ("NoNote", "NotThere", false), ("NoNote", "Taken", false), ("NoNote", "TooLong", false), ("NoNote", "TooMany", false), ("NoNote", "NothingDone", false)]
theorem left : LeftO PP vw [] (fun s => ((MR.all fun p => mroB s p.1 p.2.1 p.2.2) && clsB s "NoNote") && recOk (RowW.records (OpenRow.toRowW PySem.Challenge.rw_uf020025_11.row)) s) (Hook.obs Hook.none) (Hook.val Hook.none) 6000 := fun w => by kernel_rfl
set_option maxHeartbeats 8000000 in
theorem final : PySem.Challenge.rw_uf020025_11.Holds := by
  w_on
  refine holds_law (by kernel_rfl) fun said => ?_
  refine holds_open (q := vw) (loose := []) (Xt := fun s => ((MR.all fun p => mroB s p.1 p.2.1 p.2.2) && clsB s "NoNote") && recOk (RowW.records (OpenRow.toRowW PySem.Challenge.rw_uf020025_11.row)) s) (XP := fun mg h => MroP MR mg h ∧ ClsP mg h "NoNote") (Yf := Hook.obs Hook.none) (Ya := Hook.val Hook.none) (YP := Hook.says Hook.none) (N := 6000) left (Hook.of Hook.none) (Hook.keeps Hook.none) (fun s e => ⟨mroP_of (Bool.and_eq_true_iff.mp (Bool.and_eq_true_iff.mp e).1).1, clsB_at (Bool.and_eq_true_iff.mp (Bool.and_eq_true_iff.mp e).1).2⟩) (fun mg h h' x k => ⟨MroP.keeps mg h h' x.1 k, ClsP.keeps mg h h' x.2 k⟩) (by rfl) (by rfl) (by rfl) (fun s e => recFacts_of (Bool.and_eq_true_iff.mp e).2) (by rfl) (by first | assumption | decide +kernel) (by decide +kernel) ⟨rfl, rfl, rfl, rfl, rfl, by decide +kernel⟩ ?hw ?hc
  (case hw => w_witness2)
  intro w s₀ s₁ mg mb G Y fa o pm cd doc dV kV ho hd' hcd hD hmg hg args vals as hpre hlay hrd hwl hlo
  refine Ground.open G ?_
  intro T B D TE TW
  wrow_args hpre hlay hrd hwl hlo
  all_goals (
    first | refine callC_kw (enter_call ?_) | refine enter_call ?_ | refine callC_kw (enter_callW ?_) | refine enter_callW ?_ | w_how)
  rename_i zs _ _ _ _ _ _ _ a vs _ hL _ _ _ hI _ hlen _
  let Gm : Gl := ⟨PySem.Challenge.rw_uf020025_11.row.prog, w, s₁.heap, mg, mb, 680⟩
  have GO : Gm.Ok := top_gl T (by decide +kernel)
  have ef : Gl.fn Gm "law" = fa := by
    unfold Gl.fn fnA
    have : mg "law" = some (.ref fa) := hmg
    simp only [Gm, this]
  have C : C11 Gm.dn := ⟨fn_of T (by decide +kernel) (by kernel_rfl) (by kernel_rfl), fn_of T (by decide +kernel) (by kernel_rfl) (by kernel_rfl), top_int T (by kernel_rfl), top_int T (by kernel_rfl), top_int T (by kernel_rfl), top_int T (by kernel_rfl), top_int T (by kernel_rfl), top_str T (by kernel_rfl), fn_of T (by decide +kernel) (by kernel_rfl) (by kernel_rfl), fn_of T (by decide +kernel) (by kernel_rfl) (by kernel_rfl), fn_of T (by decide +kernel) (by kernel_rfl) (by kernel_rfl), fn_of T (by decide +kernel) (by kernel_rfl) (by kernel_rfl), fn_of T (by decide +kernel) (by kernel_rfl) (by kernel_rfl), fn_of T (by decide +kernel) (by kernel_rfl) (by kernel_rfl), fn_of T (by decide +kernel) (by kernel_rfl) (by kernel_rfl), fn_of T (by decide +kernel) (by kernel_rfl) (by kernel_rfl), ⟨fn_of T (by decide +kernel) (by kernel_rfl) (by kernel_rfl), fn_of T (by decide +kernel) (by kernel_rfl) (by kernel_rfl), fn_of T (by decide +kernel) (by kernel_rfl) (by kernel_rfl), fn_of T (by decide +kernel) (by kernel_rfl) (by kernel_rfl)⟩, fn_of T (by decide +kernel) (by kernel_rfl) (by kernel_rfl), fn_of T (by decide +kernel) (by kernel_rfl) (by kernel_rfl), fn_of T (by decide +kernel) (by kernel_rfl) (by kernel_rfl), fn_of T (by decide +kernel) (by kernel_rfl) (by kernel_rfl), fn_of T (by decide +kernel) (by kernel_rfl) (by kernel_rfl), fn_of T (by decide +kernel) (by kernel_rfl) (by kernel_rfl), fn_of T (by decide +kernel) (by kernel_rfl) (by kernel_rfl), fn_of T (by decide +kernel) (by kernel_rfl) (by kernel_rfl), top_own T (by kernel_rfl), top_own T (by kernel_rfl), top_own T (by kernel_rfl), top_own T (by kernel_rfl), top_own T (by kernel_rfl), top_own T (by kernel_rfl), top_own T (by kernel_rfl), top_own T (by kernel_rfl), G.X.1 ("NoNote", "TrailError", true) (by decide), G.X.1 ("NoNote", "NoName", false) (by decide), G.X.1 ("NoNote", "NotThere", false) (by decide), G.X.1 ("NoNote", "Taken", false) (by decide), G.X.1 ("NoNote", "TooLong", false) (by decide), G.X.1 ("NoNote", "TooMany", false) (by decide), G.X.1 ("NoNote", "NothingDone", false) (by decide), G.X.2, top_val T (by decide +kernel)⟩
  exact head_ok (G := Gm) (K := K_law) (sts := B_law) GO ef rfl rfl hg hL hI (fun _ => rfl) (law_post _ _) (fn_of T (by decide +kernel) (by kernel_rfl) (by kernel_rfl)) (law11 C (by show 600 ≤ 680 - 1; decide) (by omega))
end Mine

theorem PySem.Challenge.cw_uf020025_11_holds : PySem.Challenge.rw_uf020025_11.Holds :=
  Mine.final
