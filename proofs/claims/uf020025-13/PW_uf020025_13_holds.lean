import PyProof.Rows.All
import Wide.All
import OpenK.AllK
import Wide.FinOn
import KE.KIntText
import KE.KSortKey
import KE.KSortTup
import OpenK.KLine
import OpenK.KRaise
import PyProof.AssignAttr
import PyProof.CallFns
import PyProof.CallRoads
import PyProof.CallStr
import PyProof.Calls
import PyProof.Cells
import PyProof.CompFree
import PyProof.CompUse
import PyProof.ConsumeWalk
import PyProof.Conv_int_bool
import PyProof.Dict
import PyProof.DictKinds
import PyProof.DictRoads
import PyProof.EqKinds
import PyProof.EvalArms
import PyProof.ExcBaseAll.ValueError
import PyProof.FString5
import PyProof.FactsAll.list_3
import PyProof.FactsAll.list_4
import PyProof.ForRange
import PyProof.InstLoad
import PyProof.InstStoreFacts
import PyProof.IsInstanceH
import PyProof.IsRules
import PyProof.IsiHeapPairs
import PyProof.IsiNone
import PyProof.IsiPairs
import PyProof.LetGo
import PyProof.ListCopy
import PyProof.ListIndex
import PyProof.ListIndexNeg
import PyProof.ListOps
import PyProof.MeetsSeq
import PyProof.MeetsStr
import PyProof.NeKinds
import PyProof.Ns1
import PyProof.P3Eq
import PyProof.PlainList
import PyProof.PureInt
import PyProof.RaisesMany
import PyProof.RangeFor
import PyProof.Rows.AttrNodeAny
import PyProof.Rows.CatchOwn
import PyProof.Rows.Chain
import PyProof.Rows.EqBoolInt
import PyProof.Rows.EqMixed
import PyProof.Rows.EqNone
import PyProof.Rows.Exc
import PyProof.Rows.Lst
import PyProof.Rows.PlainEq
import PyProof.Rows.PlainNoArg
import PyProof.Rows.RegReprOcc
import PyProof.Rows.RuleB_floordiv
import PyProof.Rows.RuleB_mod
import PyProof.Rows.RuleB_small
import PyProof.Rows.SeqMore
import PyProof.Rows.SortRuns
import PyProof.Rows.SortShell
import PyProof.Rows.SortWalk
import PyProof.Rows.StrInSeq
import PyProof.Rows.StrInSeq3
import PyProof.Rows.StrItems
import PyProof.Rows.StrJoin2
import PyProof.Rows.StrSub
import PyProof.Rows.StrTemp
import PyProof.Rows.TopObj
import PyProof.Rows.TopTwo
import PyProof.Rows.Tup
import PyProof.Rows.TupAssign
import PyProof.Rows.TupMore
import PyProof.Rules2
import PyProof.Rules3
import PyProof.RulesMatch
import PyProof.Seq
import PyProof.SeqI
import PyProof.SliceList
import PyProof.SliceMore
import PyProof.SliceStr2
import PyProof.StrBlock
import PyProof.StrBlockI
import PyProof.StrCalls2
import PyProof.StrCalls3
import PyProof.StrLaws
import PyProof.StrLawsFirst
import PyProof.StrLawsTight
import PyProof.StrOps
import PyProof.StrOps2
import PyProof.StrWalks
import PyProof.TupleIter
import PyProof.TupleOfSeq
import PyProof.WalkInts
import PyProof.WalksMore
import PyProof.WalksPairs
import Open.Boot
import Open.Tree
import PySem.Challenge.RW_uf020025_13
set_option Elab.async false
set_option maxRecDepth 100000
set_option linter.all false
set_option genSizeOf false
set_option genInjectivity false
set_option autoImplicit false
set_option genSizeOf false
set_option genInjectivity false
namespace Mine
section
open PySem PySem.W PyProof.Rows
abbrev PP : Program := PySem.Challenge.pw_uf020025_13
def mroB (s : Shared) (x t : Str) (b : Bool) : Bool := match s.heap.nsMap mainGlobals x, s.heap.nsMap mainGlobals t with
  | some (.ref C), some (.ref T) => (match s.heap.get? C with
    | some o => (match o.data with
      | .cls cd => cd.mro.contains (.ref T) == b
      | _ => false)
    | none => false)
  | _, _ => false
def vw : Program := PySem.W.view PP [1, 2, 3, 4, 5, 6, 7, 9, 10, 11, 12, 13, 14, 15, 16, 18, 19, 20, 21, 22, 23, 24, 25, 26, 27, 28, 29, 31, 32, 34, 35, 36, 37, 38, 39, 41, 42, 43, 45, 46, 47, 48, 49, 50, 51, 52, 53, 54, 55, 56, 57, 58]
def MR : List (Str × Str × Bool) := [("NoName", "TrailError", true), ("NotThere", "TrailError", true), ("Taken", "TrailError", true), ("TooLong", "TrailError", true), ("TooMany", "TrailError", true), ("NothingDone", "TrailError", true)]
def bt : List Obj → Nat → BT → BT
  | [], _, t => t
  | o :: l, n, t => bt l (n + 1) (t.ins n o)
def topRunT (tb : String → Option Builtin) (p : Program) (w : World) (n₀ : Nat) (ann : Option Value) : Nat → SharedT → Thread → Option SharedT
  | 0, _, _ => none
  | n + 1, s, t => match through t with
    | true => some s
    | false => match stepOk n₀ ann t with
      | false => none
      | true => match stepT (denote tb) p w s t with
        | some (s', t') => topRunT tb p w n₀ ann n s' t'
        | none => none
theorem topRun_ofT {tb : String → Option Builtin} {p : Program} {w : World} {n₀ : Nat} {ann : Option Value} : ∀ {n : Nat} {s r : SharedT} {t : Thread}, topRunT tb p w n₀ ann n s t = some r → topRun tb p w n₀ ann n s.abs t = some r.abs
  | 0, _, _, _, h => by cases h
  | n + 1, s, r, t, h => by
    unfold topRunT at h
    unfold topRun
    cases he : through t with
    | true => rw [he] at h; cases h; rfl
    | false =>
      rw [he] at h
      cases hk : stepOk n₀ ann t with
      | false => rw [hk] at h; cases h
      | true =>
        rw [hk] at h
        cases hs : stepT (denote tb) p w s t with
        | none => rw [hs] at h; cases h
        | some x => obtain ⟨s₂, t₂⟩ := x; rw [hs] at h; rw [stepT_spec hs]; exact topRun_ofT h
theorem bt_ok (P : Params) : absHeap (bt (boot_heap P).objs.toList 0 .nil) 11 (boot_heap P).life = boot_heap P := by kernel_rfl
noncomputable abbrev sT (w : World) (os : OsState) : SharedT := ⟨bt (boot_heap w.params).objs.toList 0 .nil, 11, (boot_heap w.params).life, #[], boot_drawn, boot_toks, os⟩
theorem boot_at (P : Params) : ((boot_heap P).isNs mainGlobals && (#[] : Array GenState).size == 0) = true ∧ (boot_heap P).objs.size = 11 ∧ (boot_heap P).nsMap mainGlobals "__annotations__" = some (.ref 6) := ⟨by kernel_rfl, by kernel_rfl, by kernel_rfl⟩
theorem left_of {p q : Program} {loose : List Str} {Xt : Shared → Bool} {N : Nat} (e : opening p = plainProg p.main.scope.names) (hN : Nat.ble 600 N = true) (f : ∀ s, fenceModules? p s = some s)
    (h : ∀ w os, ∃ r, topRunT treeTable p w 11 (some (.ref 6)) N (sT w os) (topStub p) = some r ∧ (staticsOk (importedModules p.main.body) (boot_heap w.params) r.abs.heap && namesBound p r.abs.heap && gensDone r.abs && laidKept (boot_heap w.params) r.abs.heap) = true ∧ openSeen q loose (importedModules p.main.body) Xt true r.abs = openGood q loose) :
    LeftO p q loose Xt (Hook.obs Hook.none) (Hook.val Hook.none) N := fun w => by
  obtain ⟨⟨hp, gs, d, k, os⟩, e1, e2⟩ := Option.map_eq_some_iff.mp (boot_open e hN f w)
  obtain ⟨rfl, rfl, rfl, rfl⟩ : hp = boot_heap w.params ∧ gs = #[] ∧ d = boot_drawn ∧ k = boot_toks := by simpa using e2
  obtain ⟨r, h1, h2, h3⟩ := h w os
  have h1 := topRun_ofT h1
  unfold SharedT.abs at h1
  rw [bt_ok] at h1
  obtain ⟨b1, b2, b3⟩ := boot_at w.params
  unfold openEnds
  rw [e1]
  show (topFrom treeTable p w N _).map _ = _
  unfold topFrom
  dsimp only
  rw [b1, b2, b3]
  dsimp only
  rw [h1]
  show ((match staticsOk (importedModules p.main.body) (boot_heap w.params) r.abs.heap && namesBound p r.abs.heap && gensDone r.abs && laidKept (boot_heap w.params) r.abs.heap with | true => some r.abs | false => none).map _) = _
  rw [h2]
  exact congrArg some (Prod.ext h3 rfl)
theorem core (w : World) (os : OsState) : ((topRunT treeTable PP w 11 (some (.ref 6)) 8000 (sT w os) (topStub PP)).map fun r => ((staticsOk (importedModules PP.main.body) (boot_heap w.params) r.abs.heap && namesBound PP r.abs.heap && gensDone r.abs && laidKept (boot_heap w.params) r.abs.heap), openSeen vw [] (importedModules PP.main.body) (fun s => (MR.all fun p => mroB s p.1 p.2.1 p.2.2) && recOk (RowW.records (OpenRow.toRowW PySem.Challenge.rw_uf020025_13.row)) s) true r.abs)) = some (true, openGood vw []) := by kernel_rfl
theorem left : LeftO PP vw [] (fun s => (MR.all fun p => mroB s p.1 p.2.1 p.2.2) && recOk (RowW.records (OpenRow.toRowW PySem.Challenge.rw_uf020025_13.row)) s) (Hook.obs Hook.none) (Hook.val Hook.none) 8000 := left_of (by kernel_rfl) rfl (fun s => by kernel_rfl) fun w os => by
  obtain ⟨r, h1, h2⟩ := Option.map_eq_some_iff.mp (core w os)
  exact ⟨r, h1, congrArg Prod.fst h2, congrArg Prod.snd h2⟩
end
end Mine

namespace Mine
/-! ## linear arithmetic by a checked sum of premises -/
inductive Ex where
  | v (i : Nat) | c (n : Nat) | p (a b : Ex) | m (k : Nat) (a : Ex)
def ats : List Nat → Nat → Nat
  | [], _ => 0
  | x :: _, 0 => x
  | _ :: l, i + 1 => ats l i
def Ex.den (x : List Nat) : Ex → Nat
  | .v i => ats x i
  | .c n => n
  | .p a b => a.den x + b.den x
  | .m k a => k * a.den x
def padd : List Nat → List Nat → List Nat
  | [], q => q
  | a :: p, [] => a :: p
  | a :: p, b :: q => (a + b) :: padd p q
def pmul (k : Nat) : List Nat → List Nat
  | [] => []
  | a :: p => (k * a) :: pmul k p
def pvar : Nat → List Nat
  | 0 => [1]
  | i + 1 => 0 :: pvar i
def Ex.pol : Ex → List Nat
  | .v i => 0 :: pvar i
  | .c n => [n]
  | .p a b => padd a.pol b.pol
  | .m k a => pmul k a.pol
def ple : List Nat → List Nat → Bool
  | [], _ => true
  | a :: p, [] => a.ble 0 && ple p []
  | a :: p, b :: q => a.ble b && ple p q
def pev : List Nat → List Nat → Nat
  | _, [] => 0
  | [], _ :: _ => 0
  | x :: l, a :: p => a * x + pev l p
theorem pev_add : ∀ (x p q : List Nat), pev x (padd p q) = pev x p + pev x q
  | x, [], q => by cases x <;> simp [padd, pev]
  | [], a :: p, [] => by simp [padd, pev]
  | _ :: _, a :: p, [] => by simp [padd, pev]
  | [], a :: p, b :: q => by simp [padd, pev]
  | x :: l, a :: p, b :: q => by rw [padd, pev, pev, pev, pev_add l p q, Nat.add_mul]; exact Nat.add_add_add_comm ..
theorem pev_mul (k : Nat) : ∀ (x p : List Nat), pev x (pmul k p) = k * pev x p
  | x, [] => by cases x <;> simp [pmul, pev]
  | [], a :: p => by simp [pmul, pev]
  | x :: l, a :: p => by rw [pmul, pev, pev, pev_mul k l p, Nat.mul_add, Nat.mul_assoc]
theorem pev_var : ∀ (x : List Nat) (i : Nat), pev x (pvar i) = ats x i
  | [], 0 => rfl
  | [], i + 1 => rfl
  | x :: l, 0 => by cases l <;> simp [pvar, pev, ats]
  | x :: l, i + 1 => by rw [pvar, pev, pev_var l i, Nat.zero_mul, Nat.zero_add]; rfl
theorem pev_pol (x : List Nat) : ∀ e : Ex, pev (1 :: x) e.pol = e.den x
  | .v i => by rw [Ex.pol, pev, pev_var, Nat.zero_mul, Nat.zero_add]; rfl
  | .c n => by cases x <;> simp [Ex.pol, pev, Ex.den]
  | .p a b => by rw [Ex.pol, pev_add, pev_pol x a, pev_pol x b]; rfl
  | .m k a => by rw [Ex.pol, pev_mul, pev_pol x a]; rfl
theorem pev_le : ∀ (x p q : List Nat), ple p q = true → pev x p ≤ pev x q
  | x, [], q, _ => by cases x <;> exact Nat.zero_le _
  | [], _ :: _, _, _ => Nat.zero_le _
  | x :: l, a :: p, [], h => by
    rw [ple, Bool.and_eq_true] at h
    have h2 := pev_le l p [] h.2
    have h3 : pev l [] = 0 := by cases l <;> rfl
    have h4 : a = 0 := Nat.le_zero.mp (Nat.le_of_ble_eq_true h.1)
    subst h4
    show 0 * x + pev l p ≤ 0
    rw [Nat.zero_mul, Nat.zero_add]
    exact h3 ▸ h2
  | x :: l, a :: p, b :: q, h => by
    rw [ple, Bool.and_eq_true] at h
    exact Nat.add_le_add (Nat.mul_le_mul_right x (Nat.le_of_ble_eq_true h.1)) (pev_le l p q h.2)
/-- a premise: how often, left, right -/
inductive Ps where
  | nil | cons (k : Nat) (l r : Ex) (t : Ps)
def Ps.imp (x : List Nat) (P : Prop) : Ps → Prop
  | .nil => P
  | .cons _ l r t => l.den x ≤ r.den x → t.imp x P
def Ps.l : Ps → List Nat
  | .nil => []
  | .cons k l _ t => padd (pmul k l.pol) t.l
def Ps.r : Ps → List Nat
  | .nil => []
  | .cons k _ r t => padd (pmul k r.pol) t.r
theorem lin_core (x : List Nat) (P : Prop) : ∀ (t : Ps), (pev (1 :: x) t.l ≤ pev (1 :: x) t.r → P) → t.imp x P
  | .nil, h => h (Nat.le_refl _)
  | .cons k l r t, h => fun q => lin_core x P t fun g => h (by
    rw [Ps.l, Ps.r, pev_add, pev_add, pev_mul, pev_mul, pev_pol, pev_pol]
    exact Nat.add_le_add (Nat.mul_le_mul_left k q) g)
theorem lin (x : List Nat) (t : Ps) (l r : Ex) (h : ple (padd l.pol t.r) (padd r.pol t.l) = true) : t.imp x (l.den x ≤ r.den x) := lin_core x _ t fun g => by
  have := pev_le (1 :: x) _ _ h
  rw [pev_add, pev_add, pev_pol, pev_pol] at this
  exact Nat.le_of_add_le_add_right (Nat.le_trans this (Nat.add_le_add_left g _))
/-- no way out -/
theorem linF (x : List Nat) (t : Ps) (h : ple (padd [1] t.r) t.l = true) : t.imp x False := lin_core x _ t fun g => by
  have := pev_le (1 :: x) _ _ h
  rw [pev_add] at this
  have e : pev (1 :: x) [1] = 1 := by cases x <;> rfl
  rw [e] at this
  exact absurd (Nat.le_trans this g) (by rw [Nat.add_comm]; exact Nat.not_succ_le_self _)
theorem sbU (a b : Nat) : a ≤ (a - b) + b := Nat.sub_le_iff_le_add.mp (Nat.le_refl _)
theorem sbE {a b : Nat} (h : b ≤ a) : (a - b) + b ≤ a := Nat.le_of_eq (Nat.sub_add_cancel h)
theorem sbZ {a b : Nat} (h : a ≤ b) : a - b ≤ 0 := Nat.le_of_eq (Nat.sub_eq_zero_of_le h)
theorem minA {a b : Nat} (h : a ≤ b) : a ≤ min a b := Nat.le_min.mpr ⟨Nat.le_refl _, h⟩
theorem minB {a b : Nat} (h : b ≤ a) : b ≤ min a b := Nat.le_min.mpr ⟨h, Nat.le_refl _⟩
theorem maxA {a b : Nat} (h : b ≤ a) : max a b ≤ a := Nat.max_le.mpr ⟨Nat.le_refl _, h⟩
theorem maxB {a b : Nat} (h : a ≤ b) : max a b ≤ b := Nat.max_le.mpr ⟨h, Nat.le_refl _⟩
theorem halfL (a : Nat) : 2 * (a / 2) ≤ a := Nat.mul_div_le a 2
theorem halfU (a : Nat) : a ≤ 2 * (a / 2) + 1 := by have := Nat.div_add_mod a 2; have := Nat.mod_lt a (y := 2) (by decide); omega
theorem neqC {a b : Nat} (h : ¬ a = b) : a + 1 ≤ b ∨ b + 1 ≤ a := Nat.lt_or_gt_of_ne h
end Mine

set_option autoImplicit false
set_option linter.all false
namespace Mine
abbrev v0 : Ex := .v 0
abbrev v1 : Ex := .v 1
abbrev v2 : Ex := .v 2
abbrev v3 : Ex := .v 3
abbrev v4 : Ex := .v 4
abbrev v5 : Ex := .v 5
abbrev v6 : Ex := .v 6
abbrev v7 : Ex := .v 7
abbrev v8 : Ex := .v 8
abbrev v9 : Ex := .v 9
abbrev c0 : Ex := .c 0
abbrev c1 : Ex := .c 1
abbrev c2 : Ex := .c 2
abbrev c3 : Ex := .c 3
abbrev c4 : Ex := .c 4
abbrev c5 : Ex := .c 5
abbrev c6 : Ex := .c 6
abbrev c7 : Ex := .c 7
abbrev c8 : Ex := .c 8
abbrev c9 : Ex := .c 9
abbrev O : Ps := .nil
theorem a2 {x0 x1 : Nat}  (h0 : ((x0 + 1) ≤ (x1 + 1))) : (x0 ≤ x1) := (lin [x0, x1] (.cons 1 (.p v0 c1) (.p v1 c1) O) v0 v1 rfl h0)
theorem a3 {x0 x1 : Nat}  (h0 : (x0 = x1)) (h1 : (x1 < (2 ^ 62))) : (((x0 : Nat) : Int) < ((2 : Int) ^ 63)) := (Int.ofNat_lt.mpr (lin [x0, x1] (.cons 1 v0 v1 (.cons 1 (.p v1 c1) (.c (2 ^ 62)) O)) (.p v0 c1) (.c (2 ^ 63)) rfl (Nat.le_of_eq h0) h1))
theorem a4 {x0 x1 x2 x3 x4 x5 : Nat}  (h0 : (((x0 < x1) ∧ ((x0 < x2) ∧ (x3 = x4))) ↔ (x0 < x5))) (h1 : ((x0 + 1) ≤ (x5 + 1))) : ((((x0 + 1) < (x1 + 1)) ∧ (((x0 + 1) < (x2 + 1)) ∧ (x3 = x4))) ↔ ((x0 + 1) < (x5 + 1))) := by first | lia | omega
theorem a5 {x0 : Nat}  (h0 : ((x0 + 1) ≤ 0)) : False := (linF [x0] (.cons 1 (.p v0 c1) c0 O) rfl h0)
theorem a6 {x0 : Nat}  (h0 : (x0 < (2 ^ 62))) : (¬ (((x0 : Nat) : Int) ≥ ((2 : Int) ^ 63))) := (fun q => (fun u1 => (linF [x0] (.cons 1 (.p v0 c1) (.c (2 ^ 62)) (.cons 1 (.c (2 ^ 63)) v0 O)) rfl h0 u1)) (Int.ofNat_le.mp q))
theorem a7 {x0 : Nat}  (h0 : (x0 < (2 ^ 62))) : (((x0 : Nat) : Int) < ((2 : Int) ^ 63)) := (Int.ofNat_lt.mpr (lin [x0] (.cons 1 (.p v0 c1) (.c (2 ^ 62)) O) (.p v0 c1) (.c (2 ^ 63)) rfl h0))
theorem a8 {x0 : Nat}  (h0 : (x0 < 8)) : (((x0 + 0) + 0) < 30) := (lin [x0] (.cons 1 (.p v0 c1) c8 O) (.p (.p (.p v0 c0) c0) c1) (.c 30) rfl h0)
theorem a9 {x0 x1 x2 : Nat}  (h0 : ((x0 + x2) ≤ x1)) (h1 : (0 < x2)) : (x0 < x1) := (lin [x0, x2, x1] (.cons 1 (.p v0 v1) v2 (.cons 1 (.p c0 c1) v1 O)) (.p v0 c1) v2 rfl h0 h1)
theorem a10 {x0 x1 x2 : Nat}  (h0 : (((x0 + (10 * x2)) + 100) ≤ x1)) : (x0 < x1) := (lin [x0, x2, x1] (.cons 1 (.p (.p v0 (.m 10 v1)) (.c 100)) v2 O) (.p v0 c1) v2 rfl h0)
theorem a11 {x0 x1 : Nat}  (h0 : ((x1 - 1) < x1)) (h1 : (x0 = x1)) : (1 ≤ x0) := (lin [x1, x0, (x1 - 1)] (.cons 1 v0 v1 (.cons 1 (.p v2 c1) v0 O)) c1 v1 rfl (Nat.le_of_eq (Eq.symm h1)) (sbE (lin [(x1 - 1), x1] (.cons 1 (.p v0 c1) v1 O) c1 v1 rfl h0)))
theorem a12 {x0 x1 : Nat}  (h0 : ((x1 - 1) < x1)) (h1 : (x0 = x1)) : ((Int.toNat ((-(1 : Int)) + ((x0 : Nat) : Int))) = (x1 - 1)) := by first | lia | omega
theorem a13 {x1 : Nat} {x0 : Int} (h0 : (x0 < (0 : Int))) : ((Int.toNat (x0 + ((x1 : Nat) : Int))) ≤ x1) := by first | lia | omega
theorem a14 {x0 x1 x2 : Nat}  (h0 : ((x0 + x1) = (x2 + 1))) (h1 : (x1 ≤ x2)) : ((x0 - 1) < x0) := (lin [(x0 - 1), x0] (.cons 1 (.p v0 c1) v1 O) (.p v0 c1) v1 rfl (sbE (lin [x2, x0, x1] (.cons 1 (.p v0 c1) (.p v1 v2) (.cons 1 v2 v0 O)) c1 v1 rfl (Nat.le_of_eq (Eq.symm h0)) h1)))
theorem a15 {x0 x1 : Nat}  (h0 : (1 ≤ x0)) (h1 : (x0 = x1)) : ((-((x0 : Nat) : Int)) ≤ (-(1 : Int))) := by first | lia | omega
theorem a16 {x0 : Nat}  (h0 : (1 ≤ x0)) : ((-((x0 : Nat) : Int)) ≤ (-(1 : Int))) := by first | lia | omega
theorem a17 {x1 : Nat} {x0 : Int}  : ((min (Int.toNat x0) x1) ≤ x1) := by first | lia | omega
theorem a18 {x0 : Int} (h0 : ((0 : Int) ≤ x0)) : ((-((2 : Int) ^ 63)) ≤ x0) := by first | lia | omega
theorem a19 {x0 : Int} (h0 : (x0 < ((2 : Int) ^ 62))) : (x0 < ((2 : Int) ^ 63)) := by first | lia | omega
theorem a20 {x0 x1 x2 : Nat}  (h0 : ((x2 - x0) = x1)) (h1 : (x2 ≤ x1)) (h2 : (¬ (x1 = 0))) : (x0 = 0) := (Or.elim (neqC h2) (fun u1 => (Nat.le_antisymm (False.elim (linF [x1] (.cons 1 (.p v0 c1) c0 O) rfl u1)) (lin [x0] O c0 v0 rfl ))) (fun u2 => (Or.elim (Nat.le_total x2 x0) (fun u3 => (Nat.le_antisymm (False.elim (linF [x1, (x2 - x0)] (.cons 1 v0 v1 (.cons 1 (.p c0 c1) v0 (.cons 1 v1 c0 O))) rfl (Nat.le_of_eq (Eq.symm h0)) u2 (sbZ u3))) (lin [x0] O c0 v0 rfl ))) (fun u4 => (Nat.le_antisymm (lin [x1, (x2 - x0), x2, x0] (.cons 1 v0 v1 (.cons 1 v2 v0 (.cons 1 (.p v1 v3) v2 O))) v3 c0 rfl (Nat.le_of_eq (Eq.symm h0)) h1 (sbE u4)) (lin [x0] O c0 v0 rfl ))))))
theorem a21 {x1 : Nat} {x0 : Int} (h0 : (x0 < (0 : Int))) : ((max (0 : Int) (min (x0 + ((x1 : Nat) : Int)) ((x1 : Nat) : Int))) = (((Int.toNat (x0 + ((x1 : Nat) : Int))) : Nat) : Int)) := by first | lia | omega
theorem a22 {x1 : Nat} {x0 : Int} (h0 : ((0 : Int) ≤ x0)) (h1 : ((Int.toNat x0) < x1)) : (x0 < ((x1 : Nat) : Int)) := by first | lia | omega
theorem a23 {x0 x1 x2 : Nat}  (h0 : ((x0 - x2) = x1)) (h1 : (x0 ≤ x1)) : (x0 = x1) := (Nat.le_antisymm (lin [x0, x1] (.cons 1 v0 v1 O) v0 v1 rfl h1) (lin [(x0 - x2), x0, x1] (.cons 1 v0 v1 (.cons 1 v2 v0 O)) v2 v1 rfl (Nat.sub_le x0 x2) (Nat.le_of_eq (Eq.symm h0))))
theorem a24 {x1 : Nat} {x0 : Int} (h0 : (¬ (x0 < (0 : Int)))) : ((max (0 : Int) (min x0 ((x1 : Nat) : Int))) = (((min (Int.toNat x0) x1) : Nat) : Int)) := by first | lia | omega
theorem a25 {x0 x1 : Nat}  (h0 : (x0 ≤ x1)) : ((x0 + (x1 - x0)) = x1) := (Nat.le_antisymm (lin [(x1 - x0), x0, x1] (.cons 1 (.p v0 v1) v2 O) (.p v1 v0) v2 rfl (sbE (lin [x0, x1] (.cons 1 v0 v1 O) v0 v1 rfl h0))) (lin [x1, (x1 - x0), x0] (.cons 1 v0 (.p v1 v2) O) v0 (.p v2 v1) rfl (sbU x1 x0)))
theorem a26 {x0 x1 x2 : Nat}  (h0 : ((x0 + x1) ≤ x2)) (h1 : (0 < x1)) : (((x0 + 1) + (x1 - 1)) ≤ x2) := (lin [x0, x1, x2, (x1 - 1)] (.cons 1 (.p v0 v1) v2 (.cons 1 (.p v3 c1) v1 O)) (.p (.p v0 c1) v3) v2 rfl h0 (sbE (lin [x1] (.cons 1 (.p c0 c1) v0 O) c1 v0 rfl h1)))
theorem a27 {x0 x1 x2 : Nat}  (h0 : (((x0 + (10 * x1)) + 100) ≤ x2)) (h1 : (0 < x1)) : ((((x0 + 3) + (10 * (x1 - 1))) + 100) ≤ x2) := (Nat.le_of_not_lt fun u1 => (linF [x0, x1, x2, (x1 - 1)] (.cons 1 (.p (.p v0 (.m 10 v1)) (.c 100)) v2 (.cons 10 (.p v3 c1) v1 (.cons 1 (.p v2 c1) (.p (.p (.p v0 c3) (.m 10 v3)) (.c 100)) O))) rfl h0 (sbE (lin [x1] (.cons 1 (.p c0 c1) v0 O) c1 v0 rfl h1)) u1))
theorem a28 {x0 x1 x2 : Nat}  (h0 : ((x0 + x1) = (x2 + 1))) (h1 : (x1 ≤ x2)) : (((x0 - 1) + (x1 + 1)) = (x2 + 1)) := (Nat.le_antisymm (lin [x0, x1, x2, (x0 - 1)] (.cons 1 (.p v0 v1) (.p v2 c1) (.cons 1 (.p v3 c1) v0 O)) (.p v3 (.p v1 c1)) (.p v2 c1) rfl (Nat.le_of_eq h0) (sbE (lin [x2, x0, x1] (.cons 1 (.p v0 c1) (.p v1 v2) (.cons 1 v2 v0 O)) c1 v1 rfl (Nat.le_of_eq (Eq.symm h0)) h1))) (lin [x2, x0, x1, (x0 - 1)] (.cons 1 (.p v0 c1) (.p v1 v2) (.cons 1 v1 (.p v3 c1) O)) (.p v0 c1) (.p v3 (.p v2 c1)) rfl (Nat.le_of_eq (Eq.symm h0)) (sbU x0 1)))
theorem a29 {x0 x1 : Nat}  (h0 : (¬ (x1 < x0))) : (x0 ≤ x1) := (lin [x0, x1] (.cons 1 v0 v1 O) v0 v1 rfl (Nat.le_of_not_lt h0))
theorem a30 {x0 : Int} (h0 : ((0 : Int) < x0)) (h1 : (x0 < (1073741824 : Int))) : ((Int.natAbs x0) < 1073741824) := by first | lia | omega
theorem a31 {x0 x1 x2 : Nat}  (h0 : (x0 < x2)) (h1 : (x2 ≤ x1)) : (x0 ≤ x1) := (lin [x0, x2, x1] (.cons 1 (.p v0 c1) v1 (.cons 1 v1 v2 O)) v0 v2 rfl h0 h1)
theorem a32 {x0 : Int} (h0 : ((0 : Int) ≤ x0)) : (¬ (x0 < (-((2 : Int) ^ 63)))) := by first | lia | omega
theorem a33 {x1 : Nat} {x0 : Int} (h0 : (x0 < ((x1 : Nat) : Int))) (h1 : (x1 < (2 ^ 62))) : (¬ (x0 ≥ ((2 : Int) ^ 63))) := by first | lia | omega
theorem a34 {x1 : Nat} {x0 : Int} (h0 : ((0 : Int) ≤ x0)) (h1 : (x0 < ((x1 : Nat) : Int))) : ((Int.toNat x0) < x1) := by first | lia | omega
theorem a35 {x0 x1 : Int} (h0 : (x1 < x0)) : ((x0 - x1) = (((Int.toNat (x0 - x1)) : Nat) : Int)) := by first | lia | omega
theorem a36 {x0 x1 : Int} (h0 : (¬ (x1 < x0))) : ((0 : Int) = (((Int.toNat (x0 - x1)) : Nat) : Int)) := by first | lia | omega
theorem a37 {x0 : Nat}   : (x0 ≤ (x0 + 1)) := (lin [x0] O v0 (.p v0 c1) rfl )
theorem a38 {x0 x1 x2 x3 : Nat}  (h0 : (10000 ≤ x1)) (h1 : (x0 ≤ x3)) (h2 : (x2 ≤ 10000)) (h3 : (x3 < x2)) : (x0 ≤ x1) := (lin [x1, x0, x3, x2] (.cons 1 (.c 10000) v0 (.cons 1 v1 v2 (.cons 1 v3 (.c 10000) (.cons 1 (.p v2 c1) v3 O)))) v1 v0 rfl h0 h1 h2 h3)
theorem a39 {x0 : Nat}  (h0 : (x0 ≤ 10000)) : (x0 ≤ 16777216) := (lin [x0] (.cons 1 v0 (.c 10000) O) v0 (.c 16777216) rfl h0)
theorem a40 {x0 x1 x2 : Nat}  (h0 : (x0 = x2)) (h1 : (x1 < 2)) (h2 : (x1 = x2)) : (x0 ≤ 10000) := (lin [x0, x2, x1] (.cons 1 v0 v1 (.cons 1 (.p v2 c1) c2 (.cons 1 v1 v2 O))) v0 (.c 10000) rfl (Nat.le_of_eq h0) h1 (Nat.le_of_eq (Eq.symm h2)))
theorem a41 {x0 x1 : Nat}  (h0 : (x1 < 2)) : ((min x0 x1) ≤ 10000) := (lin [x1, (min x0 x1)] (.cons 1 (.p v0 c1) c2 (.cons 1 v1 v0 O)) v1 (.c 10000) rfl h0 (Nat.min_le_right x0 x1))
theorem a42 {x0 x1 : Nat}  (h0 : (x0 = x1)) (h1 : (x1 ≤ 10000)) : (x0 ≤ 16777216) := (lin [x0, x1] (.cons 1 v0 v1 (.cons 1 v1 (.c 10000) O)) v0 (.c 16777216) rfl (Nat.le_of_eq h0) h1)
theorem a43 {x0 x1 x2 : Nat}  (h0 : (x0 < x2)) (h1 : (x2 = x1)) : (x0 < x1) := (lin [x0, x2, x1] (.cons 1 (.p v0 c1) v1 (.cons 1 v1 v2 O)) (.p v0 c1) v2 rfl h0 (Nat.le_of_eq h1))
theorem a44 {x0 : Nat}  (h0 : (x0 ≤ 10000)) : (x0 ≤ (16777216 + 1)) := (lin [x0] (.cons 1 v0 (.c 10000) O) v0 (.p (.c 16777216) c1) rfl h0)
theorem a45 {x0 x1 : Nat}  (h0 : (x0 < 2)) (h1 : (x0 = ((x1 + 1) + 1))) : False := (linF [x0, x1] (.cons 1 (.p v0 c1) c2 (.cons 1 (.p (.p v1 c1) c1) v0 O)) rfl h0 (Nat.le_of_eq (Eq.symm h1)))
theorem a46 {x0 x1 x2 : Nat}  (h0 : (x0 = (min x2 x1))) (h1 : (x1 ≤ 10000)) : (x0 ≤ 10000) := (lin [(min x2 x1), x1, x0] (.cons 1 v0 v1 (.cons 1 v2 v0 (.cons 1 v1 (.c 10000) O))) v2 (.c 10000) rfl (Nat.min_le_right x2 x1) (Nat.le_of_eq h0) h1)
theorem a47 {x0 x1 x2 : Nat}  (h0 : ((x0 + x1) ≤ x2)) (h1 : (0 < x1)) : ((x0 + (x1 - 1)) ≤ x2) := (lin [x0, x1, x2, (x1 - 1)] (.cons 1 (.p v0 v1) v2 (.cons 1 (.p v3 c1) v1 O)) (.p v0 v3) v2 rfl h0 (sbE (lin [x1] (.cons 1 (.p c0 c1) v0 O) c1 v0 rfl h1)))
theorem a48 {x0 x1 x2 : Nat}  (h0 : (x0 = x1)) (h1 : (x2 = x1)) (h2 : (¬ (x2 < 2))) : (2 ≤ x0) := (lin [x1, x0, x2] (.cons 1 v0 v1 (.cons 1 v2 v0 (.cons 1 c2 v2 O))) c2 v1 rfl (Nat.le_of_eq (Eq.symm h0)) (Nat.le_of_eq h1) (Nat.le_of_not_lt h2))
theorem a49 {x0 x1 x2 : Nat}  (h0 : (((x0 + (10 * x1)) + 100) ≤ x2)) (h1 : (0 < x1)) : (((((x0 + 1) + 1) + (10 * (x1 - 1))) + 100) ≤ x2) := (Nat.le_of_not_lt fun u1 => (linF [x0, x1, x2, (x1 - 1)] (.cons 1 (.p (.p v0 (.m 10 v1)) (.c 100)) v2 (.cons 10 (.p v3 c1) v1 (.cons 1 (.p v2 c1) (.p (.p (.p (.p v0 c1) c1) (.m 10 v3)) (.c 100)) O))) rfl h0 (sbE (lin [x1] (.cons 1 (.p c0 c1) v0 O) c1 v0 rfl h1)) u1))
theorem a50 {x0 x1 x2 : Nat}  (h0 : (x0 = x2)) (h1 : (x1 = x2)) (h2 : (¬ (x1 < 2))) : (2 ≤ (min x0 x1)) := (lin [x2, x0, x1, (min x0 x1)] (.cons 1 v0 v1 (.cons 1 v2 v0 (.cons 1 c2 v2 (.cons 1 v1 v3 O)))) c2 v3 rfl (Nat.le_of_eq (Eq.symm h0)) (Nat.le_of_eq h1) (Nat.le_of_not_lt h2) (minA (lin [x0, x2, x1] (.cons 1 v0 v1 (.cons 1 v1 v2 O)) v0 v2 rfl (Nat.le_of_eq h0) (Nat.le_of_eq (Eq.symm h1)))))
theorem a51 {x0 x1 : Nat}  (h0 : (x0 = x1)) (h1 : (x1 ≤ 10000)) : (x0 ≤ 10000) := (lin [x0, x1] (.cons 1 v0 v1 (.cons 1 v1 (.c 10000) O)) v0 (.c 10000) rfl (Nat.le_of_eq h0) h1)
theorem a52 {x0 : Nat}  (h0 : (x0 ≤ 10000)) : ((x0 + 1) ≤ (16777216 + 1)) := (lin [x0] (.cons 1 v0 (.c 10000) O) (.p v0 c1) (.p (.c 16777216) c1) rfl h0)
theorem a53 {x0 x1 : Nat}  (h0 : (x1 = x0)) : (x0 ≤ (0 + x1)) := (lin [x0, x1] (.cons 1 v0 v1 O) v0 (.p c0 v1) rfl (Nat.le_of_eq (Eq.symm h0)))
theorem a54 {x0 x1 : Nat}   : (x0 ≤ (x0 + x1)) := (lin [x0, x1] O v0 (.p v0 v1) rfl )
theorem a55 {x0 x1 x2 : Nat}  (h0 : (x1 ≤ x2)) : ((x0 + x1) ≤ (x0 + x2)) := (lin [x1, x2, x0] (.cons 1 v0 v1 O) (.p v2 v0) (.p v2 v1) rfl h0)
theorem a56 {x0 x1 : Int} (h0 : (x1 < x0)) : (¬ (x0 < (x1 + (1 : Int)))) := (Int.not_lt.mpr (Int.add_one_le_of_lt h0))
theorem a57 {x0 x1 x2 : Nat}  (h0 : (x1 < x2)) : ((x0 + x1) < (x0 + x2)) := (lin [x1, x2, x0] (.cons 1 (.p v0 c1) v1 O) (.p (.p v2 v0) c1) (.p v2 v1) rfl h0)
theorem a58 {x0 x1 : Int} (h0 : (¬ (x1 < x0))) : (x0 < (x1 + (1 : Int))) := (Int.lt_add_one_of_le (Int.not_lt.mp h0))
theorem a59 {x0 x1 x2 x3 : Nat}  (h0 : ((x0 + x3) ≤ x2)) (h1 : (x1 < x3)) : ((x0 + x1) < x2) := (lin [x0, x3, x2, x1] (.cons 1 (.p v0 v1) v2 (.cons 1 (.p v3 c1) v1 O)) (.p (.p v0 v3) c1) v2 rfl h0 h1)
theorem a60   : (0 < 1) := (lin [] O (.p c0 c1) c1 rfl )
theorem a61   : ((0 + 1) ≤ 1) := (lin [] O (.p c0 c1) c1 rfl )
theorem a62 {x0 x1 : Nat}  (h0 : (x1 < x0)) : (0 < (x0 - x1)) := (lin [x1, x0, (x0 - x1)] (.cons 1 (.p v0 c1) v1 (.cons 1 v1 (.p v2 v0) O)) (.p c0 c1) v2 rfl h0 (sbU x0 x1))
theorem a63 {x0 x1 x2 x3 x4 : Nat}  (h0 : ((x0 + x4) ≤ x3)) (h1 : (x1 < x4)) (h2 : (¬ (x2 ≥ (x4 - x1)))) : ((x0 + (x1 + x2)) < x3) := (lin [x0, x4, x3, x2, (x4 - x1), x1] (.cons 1 (.p v0 v1) v2 (.cons 1 (.p v3 c1) v4 (.cons 1 (.p v4 v5) v1 O))) (.p (.p v0 (.p v5 v3)) c1) v2 rfl h0 (Nat.lt_of_not_le h2) (sbE (lin [x1, x4] (.cons 1 (.p v0 c1) v1 O) v0 v1 rfl h1)))
theorem a64 {x0 : Nat}   : (x0 < ((2 * x0) + 1)) := (lin [x0] O (.p v0 c1) (.p (.m 2 v0) c1) rfl )
theorem a65 {x0 x1 : Nat}   : (x0 ≤ (x1 + (x0 - x1))) := (lin [x0, (x0 - x1), x1] (.cons 1 v0 (.p v1 v2) O) v0 (.p v2 v1) rfl (sbU x0 x1))
theorem a66 {x0 x1 : Nat}  (h0 : ((x0 + 1) ≤ x1)) : (((x0 + 1) + 1) ≤ ((2 * x1) + 1)) := (lin [x0, x1] (.cons 1 (.p v0 c1) v1 O) (.p (.p v0 c1) c1) (.p (.m 2 v1) c1) rfl h0)
theorem a67 {x0 x1 x2 : Nat}  (h0 : (¬ (x0 ≥ (x1 - x2)))) : (x0 < (x1 - x2)) := (lin [x0, (x1 - x2)] (.cons 1 (.p v0 c1) v1 O) (.p v0 c1) v1 rfl (Nat.lt_of_not_le h0))
theorem a68 {x0 x1 : Nat}  (h0 : (x0 ≤ x1)) : ((x0 - x1) = 0) := (Nat.le_antisymm (lin [(x0 - x1)] (.cons 1 v0 c0 O) v0 c0 rfl (sbZ (lin [x0, x1] (.cons 1 v0 v1 O) v0 v1 rfl h0))) (lin [(x0 - x1)] O c0 v0 rfl ))
theorem a69 {x0 x1 : Nat}  (h0 : (¬ (x1 ≤ x0))) : (x0 ≤ x1) := (lin [x0, x1] (.cons 1 (.p v0 c1) v1 O) v0 v1 rfl (Nat.lt_of_not_le h0))
theorem a70 {x0 x1 x2 : Nat}  (h0 : (((max 0 x0) + 1) ≤ x2)) (h1 : (x1 < x0)) : ((x0 - x1) ≤ x2) := (lin [x0, (max 0 x0), x2, (x0 - x1), x1] (.cons 1 v0 v1 (.cons 1 (.p v1 c1) v2 (.cons 1 (.p v3 v4) v0 O))) v3 v2 rfl (Nat.le_max_right 0 x0) h0 (sbE (lin [x1, x0] (.cons 1 (.p v0 c1) v1 O) v0 v1 rfl h1)))
theorem a71 {x0 x1 x2 : Nat}  (h0 : (x0 < ((x1 + x2) + 1))) : (x0 ≤ (x1 + x2)) := (lin [x0, x1, x2] (.cons 1 (.p v0 c1) (.p (.p v1 v2) c1) O) v0 (.p v1 v2) rfl h0)
theorem a72 {x0 x1 x2 : Nat}  (h0 : (x0 < x2)) (h1 : (x1 < (x2 - x0))) : ((x0 + x1) < x2) := (lin [x1, (x2 - x0), x0, x2] (.cons 1 (.p v0 c1) v1 (.cons 1 (.p v1 v2) v3 O)) (.p (.p v2 v0) c1) v3 rfl h1 (sbE (lin [x0, x2] (.cons 1 (.p v0 c1) v1 O) v0 v1 rfl h0)))
theorem a73 {x0 x1 x2 x3 : Nat}  (h0 : ((x1 - x2) ≤ x3)) (h1 : ((x2 + (min x3 (x1 - x2))) ≤ x0)) (h2 : (x0 < x1)) : False := (linF [x1, (x1 - x2), x2, (min x3 (x1 - x2)), x0] (.cons 1 v0 (.p v1 v2) (.cons 1 (.p v2 v3) v4 (.cons 1 (.p v4 c1) v0 (.cons 1 v1 v3 O)))) rfl (sbU x1 x2) h1 h2 (minB (lin [(x1 - x2), x3] (.cons 1 v0 v1 O) v0 v1 rfl h0)))
theorem a74 {x0 x1 x2 x3 : Nat}  (h0 : ((x0 + (min x1 (x3 - x0))) ≤ x2)) (h1 : (x2 < x3)) : ((x0 + x1) ≤ x2) := (Or.elim (Nat.le_total x1 (x3 - x0)) (fun u2 => (lin [x0, (min x1 (x3 - x0)), x2, x1] (.cons 1 (.p v0 v1) v2 (.cons 1 v3 v1 O)) (.p v0 v3) v2 rfl h0 (minA u2))) (fun u3 => (False.elim (linF [x3, (x3 - x0), x0, (min x1 (x3 - x0)), x2] (.cons 1 v0 (.p v1 v2) (.cons 1 (.p v2 v3) v4 (.cons 1 (.p v4 c1) v0 (.cons 1 v1 v3 O)))) rfl (sbU x3 x0) h0 h1 (minB u3)))))
theorem a75 {x0 x1 x2 x3 : Nat}  (h0 : (x1 < (x3 - x0))) (h1 : (x1 < x2)) : (((x0 + x1) + 1) ≤ (x0 + (min x2 (x3 - x0)))) := (Or.elim (Nat.le_total x3 x0) (fun u2 => (lin [x1, (x3 - x0), (min x2 (x3 - x0)), x0] (.cons 1 (.p v0 c1) v1 (.cons 1 v1 v2 O)) (.p (.p v3 v0) c1) (.p v3 v2) rfl h0 (minB (lin [(x3 - x0), x2] (.cons 1 v0 c0 O) v0 v1 rfl (sbZ u2))))) (fun u3 => (Or.elim (Nat.le_total x2 (x3 - x0)) (fun u5 => (lin [x1, x2, (min x2 (x3 - x0)), x0] (.cons 1 (.p v0 c1) v1 (.cons 1 v1 v2 O)) (.p (.p v3 v0) c1) (.p v3 v2) rfl h1 (minA u5))) (fun u6 => (lin [x1, (x3 - x0), (min x2 (x3 - x0)), x0] (.cons 1 (.p v0 c1) v1 (.cons 1 v1 v2 O)) (.p (.p v3 v0) c1) (.p v3 v2) rfl h0 (minB u6))))))
theorem a76 {x0 x1 : Nat}  (h0 : (x1 = x0)) : (x0 ≤ x1) := (lin [x0, x1] (.cons 1 v0 v1 O) v0 v1 rfl (Nat.le_of_eq (Eq.symm h0)))
theorem a77 {x0 x1 : Nat}  (h0 : (x0 ≤ x1)) (h1 : (¬ (x0 = x1))) : (x0 < x1) := (Or.elim (neqC h1) (fun u2 => (lin [x0, x1] (.cons 1 (.p v0 c1) v1 O) (.p v0 c1) v1 rfl u2)) (fun u3 => (lin [x0, x1] (.cons 2 v0 v1 (.cons 1 (.p v1 c1) v0 O)) (.p v0 c1) v1 rfl h0 u3)))
theorem a78 {x0 x1 x2 : Nat}  (h0 : (x0 < x2)) : ((x0 + (min x1 (x2 - x0))) ≤ x2) := (lin [(min x1 (x2 - x0)), (x2 - x0), x0, x2] (.cons 1 v0 v1 (.cons 1 (.p v1 v2) v3 O)) (.p v2 v0) v3 rfl (Nat.min_le_right x1 (x2 - x0)) (sbE (lin [x0, x2] (.cons 1 (.p v0 c1) v1 O) v0 v1 rfl h0)))
theorem a79 {x0 x1 x2 x3 : Nat}  (h0 : (x0 ≤ x3)) (h1 : (x2 ≤ x1)) (h2 : (x3 < x2)) : (x0 < x1) := (lin [x0, x3, x2, x1] (.cons 1 v0 v1 (.cons 1 v2 v3 (.cons 1 (.p v1 c1) v2 O))) (.p v0 c1) v3 rfl h0 h1 h2)
theorem a80 {x0 x1 x2 x3 : Nat}  (h0 : (x0 < x2)) : (((x0 + (min x1 (x2 - x0))) - ((x0 + x3) + 1)) ≤ (x2 - 0)) := (lin [((x0 + (min x1 (x2 - x0))) - ((x0 + x3) + 1)), x0, (min x1 (x2 - x0)), (x2 - x0), x2, (x2 - 0)] (.cons 1 v0 (.p v1 v2) (.cons 1 v2 v3 (.cons 1 v4 (.p v5 c0) (.cons 1 (.p v3 v1) v4 O)))) v0 v5 rfl (Nat.sub_le (x0 + (min x1 (x2 - x0))) ((x0 + x3) + 1)) (Nat.min_le_right x1 (x2 - x0)) (sbU x2 0) (sbE (lin [x0, x2] (.cons 1 (.p v0 c1) v1 O) v0 v1 rfl h0)))
theorem a81 {x0 x1 x2 x3 x4 x5 : Nat}  (h0 : ((x0 + x1) < x2)) (h1 : ((x3 ≤ x4) ∨ (x2 ≤ x0))) (h2 : ((x4 + x5) < x3)) : False := (Or.elim h1 (fun u1 => (linF [x4, x5, x3] (.cons 1 (.p (.p v0 v1) c1) v2 (.cons 1 v2 v0 O)) rfl h2 u1)) (fun u2 => (linF [x0, x1, x2] (.cons 1 (.p (.p v0 v1) c1) v2 (.cons 1 v2 v0 O)) rfl h0 u2)))
theorem a82 {x0 x1 : Nat}  (h0 : (((x0 : Nat) : Int) < ((x1 : Nat) : Int))) : (x0 < x1) := (lin [x0, x1] (.cons 1 (.p v0 c1) v1 O) (.p v0 c1) v1 rfl (Int.ofNat_lt.mp h0))
theorem a83 {x0 x1 : Nat}  (h0 : ((x1 + 1) = x0)) : ((x0 - 1) = x1) := (Nat.le_antisymm (lin [x0, x1, (x0 - 1)] (.cons 1 v0 (.p v1 c1) (.cons 1 (.p v2 c1) v0 O)) v2 v1 rfl (Nat.le_of_eq (Eq.symm h0)) (sbE (lin [x1, x0] (.cons 1 (.p v0 c1) v1 O) c1 v1 rfl (Nat.le_of_eq h0)))) (lin [x1, x0, (x0 - 1)] (.cons 1 (.p v0 c1) v1 (.cons 1 v1 (.p v2 c1) O)) v0 v2 rfl (Nat.le_of_eq h0) (sbU x0 1)))
theorem a84 {x0 x1 x2 : Nat}  (h0 : (x0 < x2)) (h1 : (x2 ≤ x1)) : (x0 < x1) := (lin [x0, x2, x1] (.cons 1 (.p v0 c1) v1 (.cons 1 v1 v2 O)) (.p v0 c1) v2 rfl h0 h1)
theorem a85 {x0 x1 x2 x3 : Nat}  (h0 : ((x3 + (x0 + x1)) < x2)) : ((x0 + x1) < (x2 - x3)) := (lin [x3, x0, x1, x2, (x2 - x3)] (.cons 1 (.p (.p v0 (.p v1 v2)) c1) v3 (.cons 1 v3 (.p v4 v0) O)) (.p (.p v1 v2) c1) v4 rfl h0 (sbU x2 x3))
theorem a86 {x0 : Nat}  (h0 : (1 ≤ x0)) : (0 < x0) := (lin [x0] (.cons 1 c1 v0 O) (.p c0 c1) v0 rfl h0)
theorem a87 {x0 x1 : Int} (h0 : (¬ (x1 < x0))) : (x0 ≤ x1) := (Int.not_lt.mp h0)
theorem a88 {x0 x1 : Nat}  (h0 : (x0 ≤ x1)) (h1 : (x0 ≥ x1)) : (x0 = x1) := (Nat.le_antisymm (lin [x0, x1] (.cons 1 v0 v1 O) v0 v1 rfl h0) (lin [x1, x0] (.cons 1 v0 v1 O) v0 v1 rfl h1))
theorem a89 {x0 : Nat}  (h0 : ((1 == x0) = true)) : (x0 ≤ 1) := (lin [x0] (.cons 1 v0 c1 O) v0 c1 rfl (Nat.le_of_eq (Eq.symm (eq_of_beq h0))))
theorem a90 {x0 : Nat}  (h0 : (1 ≤ x0)) (h1 : (¬ (((0 + 1) == x0) = true))) : ((0 + 1) < x0) := (Or.elim (neqC (fun q => h1 (beq_iff_eq.mpr q))) (fun u2 => (lin [x0] (.cons 1 (.p (.p c0 c1) c1) v0 O) (.p (.p c0 c1) c1) v0 rfl u2)) (fun u3 => (lin [x0] (.cons 2 c1 v0 (.cons 1 (.p v0 c1) (.p c0 c1) O)) (.p (.p c0 c1) c1) v0 rfl h0 u3)))
theorem a91 {x0 x1 x2 x3 x4 : Nat}  (h0 : ((x0 + x4) ≤ x3)) (h1 : (x2 ≤ x4)) (h2 : (¬ (x1 ≥ x2))) : ((x0 + (x1 + ((x2 - x1) / 2))) < x3) := (Nat.le_of_not_lt fun u1 => (linF [x0, x4, x3, x2, x1, ((x2 - x1) / 2), (x2 - x1)] (.cons 2 (.p v0 v1) v2 (.cons 2 v3 v1 (.cons 1 (.p v4 c1) v3 (.cons 1 (.m 2 v5) v6 (.cons 1 v3 (.p v6 v4) (.cons 2 (.p v6 v4) v3 (.cons 2 (.p v2 c1) (.p (.p v0 (.p v4 v5)) c1) O))))))) rfl h0 h1 (Nat.lt_of_not_le h2) (halfL (x2 - x1)) (sbU x2 x1) (sbE (lin [x1, x2] (.cons 1 (.p v0 c1) v1 O) v0 v1 rfl (Nat.lt_of_not_le h2))) u1))
theorem a92 {x0 : Nat}  (h0 : (1 ≤ x0)) (h1 : (¬ ((1 == x0) = true))) : (1 < x0) := (Or.elim (neqC (fun q => h1 (beq_iff_eq.mpr q))) (fun u2 => (lin [x0] (.cons 1 (.p c1 c1) v0 O) (.p c1 c1) v0 rfl u2)) (fun u3 => (lin [x0] (.cons 2 c1 v0 (.cons 1 (.p v0 c1) c1 O)) (.p c1 c1) v0 rfl h0 u3)))
theorem a93   : ((0 + 1) ≤ (0 + 1)) := (lin [] O (.p c0 c1) (.p c0 c1) rfl )
theorem a94 {x0 x1 : Nat}  (h0 : (¬ (x0 ≥ x1))) : (((x0 + ((x1 - x0) / 2)) + 1) ≤ x1) := (Nat.le_of_not_lt fun u1 => (linF [x0, x1, ((x1 - x0) / 2), (x1 - x0)] (.cons 1 (.p v0 c1) v1 (.cons 1 (.m 2 v2) v3 (.cons 1 (.p v3 v0) v1 (.cons 2 (.p v1 c1) (.p (.p v0 v2) c1) O)))) rfl (Nat.lt_of_not_le h0) (halfL (x1 - x0)) (sbE (lin [x0, x1] (.cons 1 (.p v0 c1) v1 O) v0 v1 rfl (Nat.lt_of_not_le h0))) u1))
theorem a95 {x0 x1 x2 x3 : Nat}  (h0 : (((max 0 (x1 + x2)) + 1) ≤ (x0 + x3))) (h1 : ((x0 + 1) < x1)) (h2 : (x3 < x2)) : False := (linF [x1, x2, (max 0 (x1 + x2)), x0, x3] (.cons 1 (.p v0 v1) v2 (.cons 1 (.p v2 c1) (.p v3 v4) (.cons 1 (.p (.p v3 c1) c1) v0 (.cons 1 (.p v4 c1) v1 O)))) rfl (Nat.le_max_right 0 (x1 + x2)) h0 h1 h2)
theorem a96 {x0 x1 x2 x3 : Nat}  (h0 : ((x0 - x1) ≤ (x2 - x3))) (h1 : (x3 < x2)) : ((x0 - ((x1 + ((x0 - x1) / 2)) + 1)) ≤ (x2 - (x3 + 1))) := (Or.elim (Nat.le_total x0 x1) (fun u2 => (lin [(x0 - ((x1 + ((x0 - x1) / 2)) + 1)), (x2 - (x3 + 1))] (.cons 1 v0 c0 O) v0 v1 rfl (sbZ (lin [x0, x1, ((x0 - x1) / 2)] (.cons 1 v0 v1 O) v0 (.p (.p v1 v2) c1) rfl u2)))) (fun u3 => (Or.elim (Nat.le_total x0 ((x1 + ((x0 - x1) / 2)) + 1)) (fun u5 => (lin [(x0 - ((x1 + ((x0 - x1) / 2)) + 1)), (x2 - (x3 + 1))] (.cons 1 v0 c0 O) v0 v1 rfl (sbZ u5))) (fun u6 => (Nat.le_of_not_lt fun u7 => (linF [x0, (x0 - x1), x1, (x2 - x3), x2, (x2 - (x3 + 1)), x3, (x0 - ((x1 + ((x0 - x1) / 2)) + 1)), ((x0 - x1) / 2)] (.cons 1 v0 (.p v1 v2) (.cons 1 v1 v3 (.cons 1 v4 (.p v5 (.p v6 c1)) (.cons 1 (.p v3 v6) v4 (.cons 1 (.p v7 (.p (.p v2 v8) c1)) v0 (.cons 1 (.p v5 c1) v7 O)))))) rfl (sbU x0 x1) h0 (sbU x2 (x3 + 1)) (sbE (lin [x3, x2] (.cons 1 (.p v0 c1) v1 O) v0 v1 rfl h1)) (sbE u6) u7))))))
theorem a97 {x0 x1 x2 : Nat}  (h0 : (x0 < ((x1 + ((x2 - x1) / 2)) + 1))) : (x0 ≤ (x1 + ((x2 - x1) / 2))) := (lin [x0, x1, ((x2 - x1) / 2)] (.cons 1 (.p v0 c1) (.p (.p v1 v2) c1) O) v0 (.p v1 v2) rfl h0)
theorem a98 {x0 x1 x2 x3 x4 x5 x6 : Nat}  (h0 : (((x4 + x5) + (max 0 (x1 + x3))) ≤ (x0 + x2))) (h1 : ((x0 + 1) < x1)) (h2 : ((x6 + 1) ≤ (x4 + x5))) (h3 : (x2 < x3)) : False := (linF [x1, x3, (max 0 (x1 + x3)), x4, x5, x0, x2, x6] (.cons 1 (.p v0 v1) v2 (.cons 1 (.p (.p v3 v4) v2) (.p v5 v6) (.cons 1 (.p (.p v5 c1) c1) v0 (.cons 1 (.p v7 c1) (.p v3 v4) (.cons 1 (.p v6 c1) v1 O))))) rfl (Nat.le_max_right 0 (x1 + x3)) h0 h1 h2 h3)
theorem a99 {x0 x1 x2 : Nat}  (h0 : (x1 ≤ x2)) (h1 : (¬ (x0 ≥ x1))) : ((x0 + ((x1 - x0) / 2)) < x2) := (Nat.le_of_not_lt fun u1 => (linF [x1, x2, x0, ((x1 - x0) / 2), (x1 - x0)] (.cons 2 v0 v1 (.cons 1 (.p v2 c1) v0 (.cons 1 (.m 2 v3) v4 (.cons 1 (.p v4 v2) v0 (.cons 2 (.p v1 c1) (.p (.p v2 v3) c1) O))))) rfl h0 (Nat.lt_of_not_le h1) (halfL (x1 - x0)) (sbE (lin [x0, x1] (.cons 1 (.p v0 c1) v1 O) v0 v1 rfl (Nat.lt_of_not_le h1))) u1))
theorem a100 {x0 x1 : Nat}  (h0 : ((x0 + 1) < x1)) : (x0 < x1) := (lin [x0, x1] (.cons 1 (.p (.p v0 c1) c1) v1 O) (.p v0 c1) v1 rfl h0)
theorem a101 {x0 x1 : Nat}   : (x0 ≤ (x0 + ((x1 - x0) / 2))) := (lin [x0, ((x1 - x0) / 2)] O v0 (.p v0 v1) rfl )
theorem a102 {x0 x1 x2 : Int} (h0 : (x0 < x2)) (h1 : (x2 ≤ x1)) : (x0 ≤ x1) := (Int.le_of_lt (Int.lt_of_lt_of_le h0 h1))
theorem a103 {x0 x1 x2 : Nat}  (h0 : (x1 ≤ x2)) (h1 : (¬ (x0 ≥ x1))) : ((x0 + ((x1 - x0) / 2)) ≤ x2) := (lin [x1, x2, ((x1 - x0) / 2), (x1 - x0), x0] (.cons 1 v0 v1 (.cons 1 (.m 2 v2) v3 (.cons 1 (.p v3 v4) v0 O))) (.p v4 v2) v1 rfl h0 (halfL (x1 - x0)) (sbE (lin [x0, x1] (.cons 1 (.p v0 c1) v1 O) v0 v1 rfl (Nat.lt_of_not_le h1))))
theorem a105 {x0 x1 : Nat}  (h0 : (x0 < x1)) (h1 : (¬ (((x0 + 1) == x1) = true))) : ((x0 + 1) < x1) := (Or.elim (neqC (fun q => h1 (beq_iff_eq.mpr q))) (fun u2 => (lin [x0, x1] (.cons 1 (.p (.p v0 c1) c1) v1 O) (.p (.p v0 c1) c1) v1 rfl u2)) (fun u3 => (lin [x0, x1] (.cons 2 (.p v0 c1) v1 (.cons 1 (.p v1 c1) (.p v0 c1) O)) (.p (.p v0 c1) c1) v1 rfl h0 u3)))
theorem a106 {x0 x1 x2 x3 x4 : Nat}  (h0 : (((x0 + x1) + x4) ≤ (x2 + x3))) : (((x0 + x1) + 1) ≤ (x2 + (x3 + 1))) := (lin [x0, x1, x4, x2, x3] (.cons 1 (.p (.p v0 v1) v2) (.p v3 v4) O) (.p (.p v0 v1) c1) (.p v3 (.p v4 c1)) rfl h0)
theorem a107 {x0 x1 x2 x3 : Nat}  (h0 : ((x1 - x0) ≤ (x2 - x3))) (h1 : (x3 < x2)) (h2 : (¬ (x0 ≥ x1))) : (((x0 + ((x1 - x0) / 2)) - x0) ≤ (x2 - (x3 + 1))) := (Nat.le_of_not_lt fun u1 => (linF [x1, (x1 - x0), x0, (x2 - x3), ((x1 - x0) / 2), x2, (x2 - (x3 + 1)), x3, ((x0 + ((x1 - x0) / 2)) - x0)] (.cons 1 v0 (.p v1 v2) (.cons 2 v1 v3 (.cons 1 (.p v2 c1) v0 (.cons 1 (.m 2 v4) v1 (.cons 2 v5 (.p v6 (.p v7 c1)) (.cons 2 (.p v3 v7) v5 (.cons 2 (.p v8 v2) (.p v2 v4) (.cons 2 (.p v6 c1) v8 O)))))))) rfl (sbU x1 x0) h0 (Nat.lt_of_not_le h2) (halfL (x1 - x0)) (sbU x2 (x3 + 1)) (sbE (lin [x3, x2] (.cons 1 (.p v0 c1) v1 O) v0 v1 rfl h1)) (sbE (lin [x0, ((x1 - x0) / 2)] O v0 (.p v0 v1) rfl )) u1))
theorem a108 {x0 x1 x2 x3 x4 : Nat}  (h0 : (((x0 + x1) + x2) ≤ (x3 + x4))) : (((x0 + x1) + (x2 + 1)) ≤ (x3 + (x4 + 1))) := (lin [x0, x1, x2, x3, x4] (.cons 1 (.p (.p v0 v1) v2) (.p v3 v4) O) (.p (.p v0 v1) (.p v2 c1)) (.p v3 (.p v4 c1)) rfl h0)
theorem a109 {x0 x1 x2 : Nat}  (h0 : ((x1 - x0) ≤ (x2 - (max 0 x2)))) (h1 : (x0 ≤ x1)) : (x0 = x1) := (Nat.le_antisymm (lin [(x1 - x0), x0, x1] (.cons 1 (.p v0 v1) v2 O) v1 v2 rfl (sbE (lin [x0, x1] (.cons 1 v0 v1 O) v0 v1 rfl h1))) (lin [x1, (x1 - x0), x0, (x2 - (max 0 x2))] (.cons 1 v0 (.p v1 v2) (.cons 1 v1 v3 (.cons 1 v3 c0 O))) v0 v2 rfl (sbU x1 x0) h0 (sbZ (lin [x2, (max 0 x2)] (.cons 1 v0 v1 O) v0 v1 rfl (Nat.le_max_right 0 x2)))))
theorem a110 {x0 x1 x2 : Int} (h0 : (x2 ≤ x1)) (h1 : (¬ (x2 < x0))) : (x0 ≤ x1) := (Int.le_trans (Int.not_lt.mp h1) h0)
theorem a111 {x0 : Nat}   : (0 ≤ x0) := (lin [x0] O c0 v0 rfl )
theorem a112 {x0 x1 : Nat}  (h0 : ((x0 + 1) < x1)) (h1 : (¬ ((((x0 + 1) + 1) == x1) = true))) : (((x0 + 1) + 1) < x1) := (Or.elim (neqC (fun q => h1 (beq_iff_eq.mpr q))) (fun u2 => (lin [x0, x1] (.cons 1 (.p (.p (.p v0 c1) c1) c1) v1 O) (.p (.p (.p v0 c1) c1) c1) v1 rfl u2)) (fun u3 => (lin [x0, x1] (.cons 2 (.p (.p v0 c1) c1) v1 (.cons 1 (.p v1 c1) (.p (.p v0 c1) c1) O)) (.p (.p (.p v0 c1) c1) c1) v1 rfl h0 u3)))
theorem a113 {x0 x1 x2 : Nat}  (h0 : (x0 < x2)) (h1 : (x1 = x2)) : (x0 < x1) := (lin [x0, x2, x1] (.cons 1 (.p v0 c1) v1 (.cons 1 v1 v2 O)) (.p v0 c1) v2 rfl h0 (Nat.le_of_eq (Eq.symm h1)))
theorem a115 {x0 x1 x2 x3 : Nat}   : (¬ (((x0 + x1) ≤ x2) ∧ ((x2 < ((x0 + x1) + 0)) ∧ (x2 < x3)))) := (fun u1 => (linF [x0, x1, x2] (.cons 1 (.p v0 v1) v2 (.cons 1 (.p v2 c1) (.p (.p v0 v1) c0) O)) rfl (And.left u1) (And.left (And.right u1))))
theorem a116 {x0 x1 x2 x3 x4 : Nat}  (h0 : (((x0 + x1) + x4) ≤ (x2 + x3))) : (((x0 + x1) + 1) ≤ ((x2 + 1) + x3)) := (lin [x0, x1, x4, x2, x3] (.cons 1 (.p (.p v0 v1) v2) (.p v3 v4) O) (.p (.p v0 v1) c1) (.p (.p v3 c1) v4) rfl h0)
theorem a117 {x0 x1 x2 x3 x4 : Nat}  (h0 : ((x0 + x4) ≤ x3)) (h1 : (x1 < x4)) : ((x0 + (x1 - x2)) < x3) := (lin [x0, x4, x3, x1, (x1 - x2)] (.cons 1 (.p v0 v1) v2 (.cons 1 (.p v3 c1) v1 (.cons 1 v4 v3 O))) (.p (.p v0 v4) c1) v2 rfl h0 h1 (Nat.sub_le x1 x2))
theorem a118 {x0 x1 x2 x3 : Nat}  (h0 : ((x0 < x1) ∨ (x3 ≤ x0))) (h1 : (x2 ≤ x3)) : ((x0 < x1) ∨ (x2 ≤ x0)) := (Or.elim h0 (fun u1 => (Or.inl (lin [x0, x1] (.cons 1 (.p v0 c1) v1 O) (.p v0 c1) v1 rfl u1))) (fun u2 => (Or.inr (lin [x2, x3, x0] (.cons 1 v0 v1 (.cons 1 v1 v2 O)) v0 v2 rfl h1 u2))))
theorem a119 {x0 x1 x2 : Nat}  (h0 : (x1 < x0)) : (¬ ((x0 ≤ x1) ∧ (x1 < (x0 + x2)))) := (fun u1 => (linF [x1, x0] (.cons 1 (.p v0 c1) v1 (.cons 1 v1 v0 O)) rfl h0 (And.left u1)))
theorem a120 {x0 x1 x2 x3 : Nat}  (h0 : ((x2 + x3) ≤ x1)) (h1 : ((x2 ≤ x0) ∧ (x0 < (x2 + x3)))) : (x0 < x1) := (lin [x2, x3, x1, x0] (.cons 1 (.p v0 v1) v2 (.cons 1 (.p v3 c1) (.p v0 v1) O)) (.p v3 c1) v2 rfl h0 (And.right h1))
theorem a121 {x0 x1 x2 x3 : Nat}  (h0 : ((x1 + x3) ≤ x2)) (h1 : (x0 < x1)) : (x0 < (min x1 x2)) := (lin [x0, x1, (min x1 x2)] (.cons 1 (.p v0 c1) v1 (.cons 1 v1 v2 O)) (.p v0 c1) v2 rfl h1 (minA (lin [x1, x3, x2] (.cons 1 (.p v0 v1) v2 O) v0 v2 rfl h0)))
theorem a122 {x0 x1 : Nat}  (h0 : (¬ (x0 ≥ (x1 + 1)))) : (x0 ≤ x1) := (lin [x0, x1] (.cons 1 (.p v0 c1) (.p v1 c1) O) v0 v1 rfl (Nat.lt_of_not_le h0))
theorem a123 {x0 x1 x2 x3 : Nat}   : (¬ (((x0 + (x1 + 1)) ≤ (x0 + x1)) ∧ (((x0 + x1) < ((x0 + (x1 + 1)) + x2)) ∧ ((x0 + x1) < x3)))) := (fun u1 => (linF [x0, x1] (.cons 1 (.p v0 (.p v1 c1)) (.p v0 v1) O) rfl (And.left u1)))
theorem a124 {x0 x1 x2 x3 : Nat}  (h0 : (¬ ((x0 ≤ x1) ∧ (x1 < (x0 + x2))))) : (¬ ((x0 ≤ x1) ∧ ((x1 < (x0 + x2)) ∧ (x1 < x3)))) := (fun u1 => (Or.elim (Decidable.not_and_iff_or_not.mp h0) (fun u2 => (linF [x0, x1] (.cons 1 v0 v1 (.cons 1 (.p v1 c1) v0 O)) rfl (And.left u1) (Nat.lt_of_not_le u2))) (fun u3 => (linF [x1, x0, x2] (.cons 1 (.p v0 c1) (.p v1 v2) (.cons 1 (.p v1 v2) v0 O)) rfl (And.left (And.right u1)) (Nat.le_of_not_lt u3)))))
theorem a125 {x0 x1 x2 x3 x4 : Nat}  (h0 : (x0 ≤ x1)) (h1 : (x1 < (x3 + (min (max x2 1) x4)))) (h2 : (x2 = 0)) (h3 : (x3 ≤ x0)) : (x0 = x1) := (Nat.le_antisymm (lin [x0, x1] (.cons 1 v0 v1 O) v0 v1 rfl h0) (lin [(min (max x2 1) x4), (max x2 1), x1, x3, x0] (.cons 1 v0 v1 (.cons 1 (.p v2 c1) (.p v3 v0) (.cons 1 v3 v4 (.cons 1 v1 c1 O)))) v2 v4 rfl (Nat.min_le_left (max x2 1) x4) h1 h3 (maxB (lin [x2] (.cons 1 v0 c0 O) v0 c1 rfl (Nat.le_of_eq h2)))))
theorem a126 {x0 x1 x2 x3 x4 : Nat}  (h0 : (((x0 + x1) + x2) ≤ (x3 + x4))) : (((x0 + x1) + (x2 + 1)) ≤ ((x3 + 1) + x4)) := (lin [x0, x1, x2, x3, x4] (.cons 1 (.p (.p v0 v1) v2) (.p v3 v4) O) (.p (.p v0 v1) (.p v2 c1)) (.p (.p v3 c1) v4) rfl h0)
theorem a127 {x0 x1 x2 : Nat}  (h0 : (¬ (x2 < x0))) : ((min x0 x1) ≤ x2) := (lin [x0, x2, (min x0 x1)] (.cons 1 v0 v1 (.cons 1 v2 v0 O)) v2 v1 rfl (Nat.le_of_not_lt h0) (Nat.min_le_left x0 x1))
theorem a128 {x0 x1 : Nat}   : ((x0 + x1) ≤ (x0 + x1)) := (lin [x0, x1] O (.p v0 v1) (.p v0 v1) rfl )
theorem a129 {x0 x1 x2 x3 : Nat}  (h0 : (x0 < (x1 + (min (max x2 1) x3)))) (h1 : (¬ (x2 = 0))) : (x0 < (x1 + x2)) := (Or.elim (neqC h1) (fun u2 => (lin [(min (max x2 1) x3), (max x2 1), x0, x1, x2] (.cons 1 v0 v1 (.cons 1 (.p v2 c1) (.p v3 v0) (.cons 1 (.p v4 c1) c0 (.cons 1 v1 c1 O)))) (.p v2 c1) (.p v3 v4) rfl (Nat.min_le_left (max x2 1) x3) h0 u2 (maxB (lin [x2] (.cons 1 (.p v0 c1) c0 O) v0 c1 rfl u2)))) (fun u3 => (lin [(min (max x2 1) x3), (max x2 1), x0, x1, x2] (.cons 1 v0 v1 (.cons 1 (.p v2 c1) (.p v3 v0) (.cons 1 v1 v4 O))) (.p v2 c1) (.p v3 v4) rfl (Nat.min_le_left (max x2 1) x3) h0 (maxA (lin [x2] (.cons 1 (.p c0 c1) v0 O) c1 v0 rfl u3)))))
theorem a130 {x0 x1 : Nat}  (h0 : ((x0 - 1) < x1)) (h1 : (0 < x0)) : ((x0 - 1) < (min x0 x1)) := (lin [(x0 - 1), x0, (min x0 x1)] (.cons 1 (.p v0 c1) v1 (.cons 1 v1 v2 O)) (.p v0 c1) v2 rfl (sbE (lin [x0] (.cons 1 (.p c0 c1) v0 O) c1 v0 rfl h1)) (minA (lin [x0, (x0 - 1), x1] (.cons 1 v0 (.p v1 c1) (.cons 1 (.p v1 c1) v2 O)) v0 v2 rfl (sbU x0 1) h0)))
theorem a131 {x0 : Nat}  (h0 : (0 < x0)) : ((x0 - 1) ≤ x0) := (lin [(x0 - 1), x0] (.cons 1 (.p v0 c1) v1 O) v0 v1 rfl (sbE (lin [x0] (.cons 1 (.p c0 c1) v0 O) c1 v0 rfl h0)))
theorem a132 {x0 x1 x2 : Nat}  (h0 : ((x0 + x2) ≤ x1)) : ((min x0 x1) = x0) := (Nat.le_antisymm (lin [(min x0 x1), x0] (.cons 1 v0 v1 O) v0 v1 rfl (Nat.min_le_left x0 x1)) (lin [x0, (min x0 x1)] (.cons 1 v0 v1 O) v0 v1 rfl (minA (lin [x0, x2, x1] (.cons 1 (.p v0 v1) v2 O) v0 v2 rfl h0))))
theorem a133 {x0 x1 x2 : Nat}   : ((x0 + x1) < ((x0 + x1) + (x2 + 1))) := (lin [x0, x1, x2] O (.p (.p v0 v1) c1) (.p (.p v0 v1) (.p v2 c1)) rfl )
theorem a134 {x0 x1 : Nat}   : ((min (max (max x0 1) x1) x1) = x1) := (Nat.le_antisymm (lin [(min (max (max x0 1) x1) x1), x1] (.cons 1 v0 v1 O) v0 v1 rfl (Nat.min_le_right (max (max x0 1) x1) x1)) (lin [x1, (min (max (max x0 1) x1) x1)] (.cons 1 v0 v1 O) v0 v1 rfl (minB (lin [x1, (max (max x0 1) x1)] (.cons 1 v0 v1 O) v0 v1 rfl (Nat.le_max_right (max x0 1) x1)))))
theorem a135 {x0 x1 x2 : Nat}  (h0 : (x0 < (x1 + x2))) (h1 : (¬ (x0 < x1))) : ((x0 - x1) < x2) := (lin [x0, x1, x2, (x0 - x1)] (.cons 1 (.p v0 c1) (.p v1 v2) (.cons 1 (.p v3 v1) v0 O)) (.p v3 c1) v2 rfl h0 (sbE (lin [x1, x0] (.cons 1 v0 v1 O) v0 v1 rfl (Nat.le_of_not_lt h1))))
theorem a136 {x0 x1 : Nat}   : ((min x0 x1) ≤ ((x0 - 1) + 1)) := (lin [(min x0 x1), x0, (x0 - 1)] (.cons 1 v0 v1 (.cons 1 v1 (.p v2 c1) O)) v0 (.p v2 c1) rfl (Nat.min_le_left x0 x1) (sbU x0 1))
theorem a137 {x0 x1 x2 x3 : Nat}  (h0 : (¬ ((x0 + x1) < x3))) : (¬ (((x0 + x1) ≤ (x0 + x1)) ∧ (((x0 + x1) < ((x0 + x1) + (x2 + 1))) ∧ ((x0 + x1) < x3)))) := (fun u1 => (linF [x3, x0, x1] (.cons 1 v0 (.p v1 v2) (.cons 1 (.p (.p v1 v2) c1) v0 O)) rfl (Nat.le_of_not_lt h0) (And.right (And.right u1))))
theorem a138 {x0 x1 x2 x3 x4 x5 : Nat}  (h0 : (((x4 + x5) + (max 0 (x1 + x3))) ≤ (x0 + x2))) (h1 : ((x0 + 1) < x1)) (h2 : (x2 < x3)) : False := (linF [x1, x3, (max 0 (x1 + x3)), x4, x5, x0, x2] (.cons 1 (.p v0 v1) v2 (.cons 1 (.p (.p v3 v4) v2) (.p v5 v6) (.cons 1 (.p (.p v5 c1) c1) v0 (.cons 1 (.p v6 c1) v1 O)))) rfl (Nat.le_max_right 0 (x1 + x3)) h0 h1 h2)
theorem a139 {x0 x1 : Nat}  (h0 : (x0 < x1)) : ((min x0 x1) = x0) := (Nat.le_antisymm (lin [(min x0 x1), x0] (.cons 1 v0 v1 O) v0 v1 rfl (Nat.min_le_left x0 x1)) (lin [x0, (min x0 x1)] (.cons 1 v0 v1 O) v0 v1 rfl (minA (lin [x0, x1] (.cons 1 (.p v0 c1) v1 O) v0 v1 rfl h0))))
theorem a140 {x0 x1 x2 : Nat}  (h0 : (¬ (x1 < (x0 + x2)))) : (¬ ((x0 ≤ x1) ∧ (x1 < (x0 + x2)))) := (fun u1 => (linF [x0, x2, x1] (.cons 1 (.p v0 v1) v2 (.cons 1 (.p v2 c1) (.p v0 v1) O)) rfl (Nat.le_of_not_lt h0) (And.right u1)))
theorem a142 {x0 x1 x2 : Nat}  (h0 : (¬ ((x1 + x2) < x0))) : (x0 ≤ (x1 + x2)) := (lin [x0, x1, x2] (.cons 1 v0 (.p v1 v2) O) v0 (.p v1 v2) rfl (Nat.le_of_not_lt h0))
theorem a143 {x0 x1 x2 : Nat}  (h0 : (¬ (x1 < (x2 + x0)))) : (x0 ≤ (x1 - x2)) := (lin [x2, x0, x1, (x1 - x2)] (.cons 1 (.p v0 v1) v2 (.cons 1 v2 (.p v3 v0) O)) v1 v3 rfl (Nat.le_of_not_lt h0) (sbU x1 x2))
theorem a144 {x0 x1 x2 x3 x4 x5 x6 : Nat}  (h0 : (((x5 + x6) + 1) ≤ (x3 + x4))) (h1 : ((x0 + 1) ≤ (x5 + x6))) (h2 : ((x3 + x4) ≤ (x1 + x2))) : (((x0 + 1) + 1) ≤ (x1 + x2)) := (lin [x5, x6, x3, x4, x0, x1, x2] (.cons 1 (.p (.p v0 v1) c1) (.p v2 v3) (.cons 1 (.p v4 c1) (.p v0 v1) (.cons 1 (.p v2 v3) (.p v5 v6) O))) (.p (.p v4 c1) c1) (.p v5 v6) rfl h0 h1 h2)
theorem a145 {x0 x1 x2 x3 x4 : Nat}  (h0 : (((x0 + (x1 + 1)) ≤ x2) ∧ ((x2 < ((x0 + (x1 + 1)) + x3)) ∧ (x2 < x4)))) : ((x0 + x1) ≤ x2) := (lin [x0, x1, x2] (.cons 1 (.p v0 (.p v1 c1)) v2 O) (.p v0 v1) v2 rfl (And.left h0))
theorem a146 {x0 x1 x2 : Nat}  (h0 : (¬ (x0 < (x1 + x2)))) : (x0 = ((x1 + x2) + ((x0 - x1) - x2))) := (Nat.le_antisymm (lin [(x0 - x1), ((x0 - x1) - x2), x2, x0, x1] (.cons 1 v0 (.p v1 v2) (.cons 1 v3 (.p v0 v4) O)) v3 (.p (.p v4 v2) v1) rfl (sbU (x0 - x1) x2) (sbU x0 x1)) (lin [((x0 - x1) - x2), x2, (x0 - x1), x1, x0] (.cons 1 (.p v0 v1) v2 (.cons 1 (.p v2 v3) v4 O)) (.p (.p v3 v1) v0) v4 rfl (sbE (lin [x1, x2, x0, (x0 - x1)] (.cons 1 (.p v0 v1) v2 (.cons 1 v2 (.p v3 v0) O)) v1 v3 rfl (Nat.le_of_not_lt h0) (sbU x0 x1))) (sbE (lin [x1, x2, x0] (.cons 1 (.p v0 v1) v2 O) v0 v2 rfl (Nat.le_of_not_lt h0)))))
theorem a147 {x0 : Nat}   : (x0 ≤ x0) := (lin [x0] O v0 v0 rfl )
theorem a148 {x0 x1 x2 x3 x4 : Nat}  (h0 : (((x1 + (x2 + 1)) ≤ x0) ∧ ((x0 < ((x1 + (x2 + 1)) + x3)) ∧ (x0 < x4)))) : (x0 < ((x1 + x2) + (x3 + 1))) := (lin [x0, x1, x2, x3] (.cons 1 (.p v0 c1) (.p (.p v1 (.p v2 c1)) v3) O) (.p v0 c1) (.p (.p v1 v2) (.p v3 c1)) rfl (And.left (And.right h0)))
theorem a150 {x0 : Nat}   : ((x0 - 0) ≤ (x0 - 0)) := (lin [(x0 - 0)] O v0 v0 rfl )
theorem a151 {x0 : Nat}  (h0 : (1 ≤ x0)) : ((x0 - 1) < x0) := (lin [(x0 - 1), x0] (.cons 1 (.p v0 c1) v1 O) (.p v0 c1) v1 rfl (sbE (lin [x0] (.cons 1 c1 v0 O) c1 v0 rfl h0)))
theorem a152 {x0 : Nat}  (h0 : (x0 < 0)) : False := (linF [x0] (.cons 1 (.p v0 c1) c0 O) rfl h0)
theorem a153 {x0 x1 x2 x3 x4 : Nat}  (h0 : (((x1 + (x2 + 1)) ≤ x0) ∧ ((x0 < ((x1 + (x2 + 1)) + x3)) ∧ (x0 < x4)))) : ((x0 - (x1 + x2)) = ((x0 - (x1 + (x2 + 1))) + 1)) := (Nat.le_antisymm (lin [x0, (x0 - (x1 + (x2 + 1))), x1, x2, (x0 - (x1 + x2))] (.cons 1 v0 (.p v1 (.p v2 (.p v3 c1))) (.cons 1 (.p v4 (.p v2 v3)) v0 O)) v4 (.p v1 c1) rfl (sbU x0 (x1 + (x2 + 1))) (sbE (lin [x1, x2, x0] (.cons 1 (.p v0 (.p v1 c1)) v2 O) (.p v0 v1) v2 rfl (And.left h0)))) (lin [x0, (x0 - (x1 + x2)), x1, x2, (x0 - (x1 + (x2 + 1)))] (.cons 1 v0 (.p v1 (.p v2 v3)) (.cons 1 (.p v4 (.p v2 (.p v3 c1))) v0 O)) (.p v4 c1) v1 rfl (sbU x0 (x1 + x2)) (sbE (lin [x1, x2, x0] (.cons 1 (.p v0 (.p v1 c1)) v2 O) (.p v0 (.p v1 c1)) v2 rfl (And.left h0)))))
theorem a154 {x0 x1 x2 : Nat}  (h0 : (((max 0 x2) + 1) ≤ x1)) (h1 : (x0 < x2)) : ((x0 + 1) ≤ x1) := (lin [x2, (max 0 x2), x1, x0] (.cons 1 v0 v1 (.cons 1 (.p v1 c1) v2 (.cons 1 (.p v3 c1) v0 O))) (.p v3 c1) v2 rfl (Nat.le_max_right 0 x2) h0 h1)
theorem a156 {x0 x1 : Nat}  (h0 : (x0 < x1)) (h1 : (x1 ≤ x0)) : False := (linF [x0, x1] (.cons 1 (.p v0 c1) v1 (.cons 1 v1 v0 O)) rfl h0 h1)
theorem a157 {x0 x1 x2 : Nat}  (h0 : ((x0 + 1) ≤ x1)) (h1 : (x2 < ((x0 + 1) - (min x1 (x0 + 1))))) : False := (linF [x2, ((x0 + 1) - (min x1 (x0 + 1))), (min x1 (x0 + 1)), x0] (.cons 1 (.p v0 c1) v1 (.cons 1 (.p v1 v2) (.p v3 c1) (.cons 1 (.p v3 c1) v2 O))) rfl h1 (sbE (lin [(min x1 (x0 + 1)), x0] (.cons 1 v0 (.p v1 c1) O) v0 (.p v1 c1) rfl (Nat.min_le_right x1 (x0 + 1)))) (minB (lin [x0, x1] (.cons 1 (.p v0 c1) v1 O) (.p v0 c1) v1 rfl h0)))
theorem a158 {x0 x1 x2 x3 x4 : Nat}  (h0 : (¬ (((x0 + (x1 + 1)) ≤ x2) ∧ ((x2 < ((x0 + (x1 + 1)) + x3)) ∧ (x2 < x4))))) (h1 : (¬ ((x0 + x1) = x2))) : (¬ (((x0 + x1) ≤ x2) ∧ ((x2 < ((x0 + x1) + (x3 + 1))) ∧ (x2 < x4)))) := (fun u1 => (Or.elim (Decidable.not_and_iff_or_not.mp h0) (fun u2 => (Or.elim (neqC h1) (fun u4 => (linF [x2, x0, x1] (.cons 1 (.p v0 c1) (.p v1 (.p v2 c1)) (.cons 1 (.p (.p v1 v2) c1) v0 O)) rfl (Nat.lt_of_not_le u2) u4)) (fun u5 => (linF [x0, x1, x2] (.cons 1 (.p v0 v1) v2 (.cons 1 (.p v2 c1) (.p v0 v1) O)) rfl (And.left u1) u5)))) (fun u3 => (Or.elim (neqC h1) (fun u6 => (Or.elim (Decidable.not_and_iff_or_not.mp u3) (fun u8 => (linF [x2, x0, x1, x3] (.cons 1 (.p v0 c1) (.p (.p v1 v2) (.p v3 c1)) (.cons 1 (.p (.p v1 (.p v2 c1)) v3) v0 O)) rfl (And.left (And.right u1)) (Nat.le_of_not_lt u8))) (fun u9 => (linF [x2, x4] (.cons 1 (.p v0 c1) v1 (.cons 1 v1 v0 O)) rfl (And.right (And.right u1)) (Nat.le_of_not_lt u9))))) (fun u7 => (linF [x0, x1, x2] (.cons 1 (.p v0 v1) v2 (.cons 1 (.p v2 c1) (.p v0 v1) O)) rfl (And.left u1) u7))))))
theorem a159 {x0 x1 : Nat}  (h0 : ((x0 + 1) < x1)) : ((x0 + (x1 - x0)) ≤ x1) := (lin [(x1 - x0), x0, x1] (.cons 1 (.p v0 v1) v2 O) (.p v1 v0) v2 rfl (sbE (lin [x0, x1] (.cons 1 (.p (.p v0 c1) c1) v1 O) v0 v1 rfl h0)))
theorem a160 {x0 x1 x2 : Nat}  (h0 : (x0 < ((x1 + 1) - (min x2 (x1 + 1))))) (h1 : (x2 ≤ x1)) : (x0 ≤ (x1 - x2)) := (lin [x0, ((x1 + 1) - (min x2 (x1 + 1))), x1, (x1 - x2), x2, (min x2 (x1 + 1))] (.cons 1 (.p v0 c1) v1 (.cons 1 v2 (.p v3 v4) (.cons 1 (.p v1 v5) (.p v2 c1) (.cons 1 v4 v5 O)))) v0 v3 rfl h0 (sbU x1 x2) (sbE (lin [(min x2 (x1 + 1)), x1] (.cons 1 v0 (.p v1 c1) O) v0 (.p v1 c1) rfl (Nat.min_le_right x2 (x1 + 1)))) (minA (lin [x2, x1] (.cons 1 v0 v1 O) v0 (.p v1 c1) rfl h1)))
theorem a161 {x0 : Nat}  (h0 : (¬ (((x0 - 1) == 0) = true))) : (0 < (x0 - 1)) := (Or.elim (neqC (fun q => h0 (beq_iff_eq.mpr q))) (fun u2 => (lin [(x0 - 1)] (.cons 1 (.p v0 c1) c0 O) (.p c0 c1) v0 rfl u2)) (fun u3 => (lin [(x0 - 1)] (.cons 1 (.p c0 c1) v0 O) (.p c0 c1) v0 rfl u3)))
theorem a162 {x0 x1 x2 : Nat}  (h0 : (x0 < x2)) : ((x0 - x1) < x2) := (lin [x0, x2, (x0 - x1)] (.cons 1 (.p v0 c1) v1 (.cons 1 v2 v0 O)) (.p v2 c1) v1 rfl h0 (Nat.sub_le x0 x1))
theorem a163 {x0 : Nat}  (h0 : (1 ≤ x0)) (h1 : (¬ ((x0 == 1) = true))) : (1 < x0) := (Or.elim (neqC (fun q => h1 (beq_iff_eq.mpr q))) (fun u2 => (lin [x0] (.cons 2 c1 v0 (.cons 1 (.p v0 c1) c1 O)) (.p c1 c1) v0 rfl h0 u2)) (fun u3 => (lin [x0] (.cons 1 (.p c1 c1) v0 O) (.p c1 c1) v0 rfl u3)))
theorem a164 {x0 x1 : Nat}  (h0 : ((x1 + 1) < x0)) : (0 < (x0 - x1)) := (lin [x1, x0, (x0 - x1)] (.cons 1 (.p (.p v0 c1) c1) v1 (.cons 1 v1 (.p v2 v0) O)) (.p c0 c1) v2 rfl h0 (sbU x0 x1))
theorem a165 {x0 : Nat}  (h0 : (1 ≤ x0)) : ((x0 - 1) ≤ x0) := (lin [(x0 - 1), x0] (.cons 1 (.p v0 c1) v1 O) v0 v1 rfl (sbE (lin [x0] (.cons 1 c1 v0 O) c1 v0 rfl h0)))
theorem a166 {x0 x1 x2 x3 x4 x5 : Nat}  (h0 : ((x0 + x4) ≤ x3)) (h1 : (x2 ≤ x5)) (h2 : (x5 < x4)) (h3 : (¬ (x1 ≥ x2))) : ((x0 + ((x1 + x2) / 2)) < x3) := (Nat.le_of_not_lt fun u1 => (linF [x0, x4, x3, x2, x5, x1, ((x1 + x2) / 2)] (.cons 2 (.p v0 v1) v2 (.cons 2 v3 v4 (.cons 2 (.p v4 c1) v1 (.cons 1 (.p v5 c1) v3 (.cons 1 (.m 2 v6) (.p v5 v3) (.cons 2 (.p v2 c1) (.p (.p v0 v6) c1) O)))))) rfl h0 h1 h2 (Nat.lt_of_not_le h3) (halfL (x1 + x2)) u1))
theorem a167 {x0 x1 : Nat}  (h0 : (1 ≤ x0)) : ((((0 + 1) + (x0 - 1)) + x1) ≤ (x0 + x1)) := (lin [(x0 - 1), x0, x1] (.cons 1 (.p v0 c1) v1 O) (.p (.p (.p c0 c1) v0) v2) (.p v1 v2) rfl (sbE (lin [x0] (.cons 1 c1 v0 O) c1 v0 rfl h0)))
theorem a168 {x0 x1 : Nat}  (h0 : (¬ (x0 ≥ x1))) : (x0 ≤ ((x0 + x1) / 2)) := (Nat.le_of_not_lt fun u1 => (linF [x0, x1, ((x0 + x1) / 2)] (.cons 1 (.p v0 c1) v1 (.cons 1 (.p v0 v1) (.p (.m 2 v2) c1) (.cons 2 (.p v2 c1) v0 O))) rfl (Nat.lt_of_not_le h0) (halfU (x0 + x1)) u1))
theorem a169 {x0 x1 x2 : Nat} {x3 x4 : Int} (h0 : (((x0 + 1) ≤ x1) ∨ ((x1 ≤ x0) ∧ (x3 < x4)))) (h1 : (x2 < x1)) : (((x0 + 1) - (min x1 (x0 + 1))) ≤ (x0 - x2)) := (Or.elim h0 (fun u2 => (lin [((x0 + 1) - (min x1 (x0 + 1))), (min x1 (x0 + 1)), x0, (x0 - x2)] (.cons 1 (.p v0 v1) (.p v2 c1) (.cons 1 (.p v2 c1) v1 O)) v0 v3 rfl (sbE (lin [(min x1 (x0 + 1)), x0] (.cons 1 v0 (.p v1 c1) O) v0 (.p v1 c1) rfl (Nat.min_le_right x1 (x0 + 1)))) (minB (lin [x0, x1] (.cons 1 (.p v0 c1) v1 O) (.p v0 c1) v1 rfl u2)))) (fun u3 => (lin [x2, x1, x0, (x0 - x2), ((x0 + 1) - (min x1 (x0 + 1))), (min x1 (x0 + 1))] (.cons 1 (.p v0 c1) v1 (.cons 1 v2 (.p v3 v0) (.cons 1 (.p v4 v5) (.p v2 c1) (.cons 1 v1 v5 O)))) v4 v3 rfl h1 (sbU x0 x2) (sbE (lin [(min x1 (x0 + 1)), x0] (.cons 1 v0 (.p v1 c1) O) v0 (.p v1 c1) rfl (Nat.min_le_right x1 (x0 + 1)))) (minA (lin [x1, x0] (.cons 1 v0 v1 O) v0 (.p v1 c1) rfl (And.left u3))))))
theorem a170 {x0 x1 x2 x3 : Nat}  (h0 : (x0 < (min (x1 - x2) (x3 - x2)))) : (x0 < (x1 - x2)) := (lin [(min (x1 - x2) (x3 - x2)), (x1 - x2), x0] (.cons 1 v0 v1 (.cons 1 (.p v2 c1) v0 O)) (.p v2 c1) v1 rfl (Nat.min_le_left (x1 - x2) (x3 - x2)) h0)
theorem a171 {x0 x1 x2 x3 : Nat}  (h0 : (((((max 0 (x0 + x1)) + 1) + x2) + x3) ≤ (x0 + x1))) : False := (linF [x0, x1, (max 0 (x0 + x1)), x2, x3] (.cons 1 (.p v0 v1) v2 (.cons 1 (.p (.p (.p v2 c1) v3) v4) (.p v0 v1) O)) rfl (Nat.le_max_right 0 (x0 + x1)) h0)
theorem a172 {x0 x1 x2 : Nat}  (h0 : (x1 ≤ x2)) (h1 : (¬ (x0 ≥ x1))) : (((x0 + x1) / 2) ≤ x2) := (Nat.le_of_not_lt fun u1 => (linF [x1, x2, x0, ((x0 + x1) / 2)] (.cons 2 v0 v1 (.cons 1 (.p v2 c1) v0 (.cons 1 (.m 2 v3) (.p v2 v0) (.cons 2 (.p v1 c1) v3 O)))) rfl h0 (Nat.lt_of_not_le h1) (halfL (x0 + x1)) u1))
theorem a173 {x0 x1 x2 : Nat}  (h0 : (x0 < x2)) : ((x0 - x1) ≤ x2) := (lin [x0, x2, (x0 - x1)] (.cons 1 (.p v0 c1) v1 (.cons 1 v2 v0 O)) v2 v1 rfl h0 (Nat.sub_le x0 x1))
theorem a174 {x0 x1 x2 x3 : Nat}  (h0 : (x1 < (x3 - x0))) (h1 : (x3 ≤ x2)) : ((x0 + x1) < x2) := (Or.elim (Nat.le_total x3 x0) (fun u2 => (False.elim (linF [x1, (x3 - x0)] (.cons 1 (.p v0 c1) v1 (.cons 1 v1 c0 O)) rfl h0 (sbZ u2)))) (fun u3 => (lin [x1, (x3 - x0), x3, x2, x0] (.cons 1 (.p v0 c1) v1 (.cons 1 v2 v3 (.cons 1 (.p v1 v4) v2 O))) (.p (.p v4 v0) c1) v3 rfl h0 h1 (sbE u3))))
theorem a175 {x0 x1 x2 x3 : Nat}  (h0 : ((x1 - x0) ≤ (x2 - x3))) (h1 : (x3 < x2)) : ((((x0 + x1) / 2) - x0) ≤ (x2 - (x3 + 1))) := (Or.elim (Nat.le_total x1 x0) (fun u2 => (Or.elim (Nat.le_total ((x0 + x1) / 2) x0) (fun u5 => (lin [(((x0 + x1) / 2) - x0), (x2 - (x3 + 1))] (.cons 1 v0 c0 O) v0 v1 rfl (sbZ u5))) (fun u6 => (lin [((x0 + x1) / 2), x0, x1, (((x0 + x1) / 2) - x0), (x2 - (x3 + 1))] (.cons 1 (.m 2 v0) (.p v1 v2) (.cons 1 v2 v1 (.cons 2 (.p v3 v1) v0 O))) v3 v4 rfl (halfL (x0 + x1)) u2 (sbE u6))))) (fun u3 => (Or.elim (Nat.le_total ((x0 + x1) / 2) x0) (fun u8 => (lin [(((x0 + x1) / 2) - x0), (x2 - (x3 + 1))] (.cons 1 v0 c0 O) v0 v1 rfl (sbZ u8))) (fun u9 => (Nat.le_of_not_lt fun u10 => (linF [x1, (x1 - x0), x0, (x2 - x3), ((x0 + x1) / 2), x2, (x2 - (x3 + 1)), x3, (((x0 + x1) / 2) - x0)] (.cons 1 v0 (.p v1 v2) (.cons 1 v1 v3 (.cons 1 (.m 2 v4) (.p v2 v0) (.cons 1 v5 (.p v6 (.p v7 c1)) (.cons 1 (.p v3 v7) v5 (.cons 2 (.p v8 v2) v4 (.cons 2 (.p v6 c1) v8 O))))))) rfl (sbU x1 x0) h0 (halfL (x0 + x1)) (sbU x2 (x3 + 1)) (sbE (lin [x3, x2] (.cons 1 (.p v0 c1) v1 O) v0 v1 rfl h1)) (sbE u9) u10))))))
theorem a176 {x0 x1 x2 : Int} (h0 : (x0 < (x2 + (1 : Int)))) (h1 : (x2 ≤ x1)) : (x0 ≤ x1) := (Int.le_trans (Int.le_of_lt_add_one h0) h1)
theorem a177 {x0 x1 x2 x3 x4 x5 x6 : Nat}  (h0 : ((((x0 + 1) + x1) + x2) ≤ (x3 + x4))) (h1 : (((x5 + x6) + (max 0 (x3 + x4))) ≤ (x1 + x2))) : False := (linF [x0, x1, x2, x3, x4, (max 0 (x3 + x4)), x5, x6] (.cons 1 (.p (.p (.p v0 c1) v1) v2) (.p v3 v4) (.cons 1 (.p v3 v4) v5 (.cons 1 (.p (.p v6 v7) v5) (.p v1 v2) O))) rfl h0 (Nat.le_max_right 0 (x3 + x4)) h1)
theorem a178 {x0 x1 x2 x3 : Nat}  (h0 : ((x0 + x2) ≤ x3)) (h1 : (1 ≤ x2)) (h2 : (x1 = x3)) : (x0 < x1) := (lin [x0, x2, x3, x1] (.cons 1 (.p v0 v1) v2 (.cons 1 c1 v1 (.cons 1 v2 v3 O))) (.p v0 c1) v3 rfl h0 h1 (Nat.le_of_eq (Eq.symm h2)))
theorem a179 {x0 x1 x2 x3 : Nat}  (h0 : (x0 < x3)) : (((x0 - x1) - ((x0 + 1) - (min x2 (x0 + 1)))) ≤ (x3 - 0)) := (lin [x0, x3, ((x0 - x1) - ((x0 + 1) - (min x2 (x0 + 1)))), (x0 - x1), (x3 - 0)] (.cons 1 (.p v0 c1) v1 (.cons 1 v2 v3 (.cons 1 v3 v0 (.cons 1 v1 (.p v4 c0) O)))) v2 v4 rfl h0 (Nat.sub_le (x0 - x1) ((x0 + 1) - (min x2 (x0 + 1)))) (Nat.sub_le x0 x1) (sbU x3 0))
theorem a180 {x0 x1 x2 : Nat}   : (x0 ≤ (x0 + ((x1 + x2) / 2))) := (lin [x0, ((x1 + x2) / 2)] O v0 (.p v0 v1) rfl )
theorem a181 {x0 x1 : Nat}  (h0 : (1 < x0)) (h1 : (x0 ≤ x1)) : ((x0 - 1) < x1) := (lin [x0, x1, (x0 - 1)] (.cons 1 v0 v1 (.cons 1 (.p v2 c1) v0 O)) (.p v2 c1) v1 rfl h1 (sbE (lin [x0] (.cons 1 (.p c1 c1) v0 O) c1 v0 rfl h0)))
theorem a182 {x0 x1 x2 x3 x4 x5 : Nat}  (h0 : ((x3 + x5) ≤ x4)) (h1 : (x2 = x4)) (h2 : (x3 = (x0 + x1))) : ((x0 + x1) ≤ x2) := (lin [x3, x5, x4, x2, x0, x1] (.cons 1 (.p v0 v1) v2 (.cons 1 v2 v3 (.cons 1 (.p v4 v5) v0 O))) (.p v4 v5) v3 rfl h0 (Nat.le_of_eq (Eq.symm h1)) (Nat.le_of_eq (Eq.symm h2)))
theorem a183 {x0 x1 x2 x3 : Nat}  (h0 : (((x1 + x2) / 2) ≤ x3)) : ((x0 + ((x1 + x2) / 2)) ≤ (x0 + x3)) := (lin [((x1 + x2) / 2), x3, x0] (.cons 1 v0 v1 O) (.p v2 v0) (.p v2 v1) rfl h0)
theorem a184 {x0 x1 x2 : Nat}  (h0 : (x1 < x2)) : ((x0 + x1) ≤ (x0 + x2)) := (lin [x1, x2, x0] (.cons 1 (.p v0 c1) v1 O) (.p v2 v0) (.p v2 v1) rfl h0)
theorem a185 {x0 x1 x2 : Nat}  (h0 : (x1 < (x2 - x0))) : ((x0 + x1) < x2) := (Or.elim (Nat.le_total x2 x0) (fun u2 => (False.elim (linF [x1, (x2 - x0)] (.cons 1 (.p v0 c1) v1 (.cons 1 v1 c0 O)) rfl h0 (sbZ u2)))) (fun u3 => (lin [x1, (x2 - x0), x0, x2] (.cons 1 (.p v0 c1) v1 (.cons 1 (.p v1 v2) v3 O)) (.p (.p v2 v0) c1) v3 rfl h0 (sbE u3))))
theorem a186 {x0 x1 : Nat}  (h0 : (0 < x0)) (h1 : (x0 ≤ x1)) : ((x0 - 1) < x1) := (lin [x0, x1, (x0 - 1)] (.cons 1 v0 v1 (.cons 1 (.p v2 c1) v0 O)) (.p v2 c1) v1 rfl h1 (sbE (lin [x0] (.cons 1 (.p c0 c1) v0 O) c1 v0 rfl h0)))
theorem a187 {x0 x1 : Int} (h0 : ((x0 + (1 : Int)) ≤ x1)) : (x0 ≤ x1) := (Int.le_of_lt (Int.lt_of_add_one_le h0))
theorem a188 {x0 x1 : Nat}  (h0 : (¬ (x0 ≥ x1))) : ((((x0 + x1) / 2) + 1) ≤ x1) := (Nat.le_of_not_lt fun u1 => (linF [x0, x1, ((x0 + x1) / 2)] (.cons 1 (.p v0 c1) v1 (.cons 1 (.m 2 v2) (.p v0 v1) (.cons 2 (.p v1 c1) (.p v2 c1) O))) rfl (Nat.lt_of_not_le h0) (halfL (x0 + x1)) u1))
theorem a190 {x0 x1 x2 x3 x4 : Nat}  (h0 : (((x3 - x2) == 0) = true)) (h1 : (1 ≤ x3)) (h2 : (x0 < x4)) (h3 : (x4 = (x1 + x3))) : ((x0 - x1) < x2) := (Or.elim (Nat.le_total x0 x1) (fun u2 => (lin [x3, (x3 - x2), x2, (x0 - x1)] (.cons 1 v0 (.p v1 v2) (.cons 1 c1 v0 (.cons 1 v1 c0 (.cons 1 v3 c0 O)))) (.p v3 c1) v2 rfl (sbU x3 x2) h1 (sbZ (lin [x3, (x3 - x2), x2] (.cons 1 v0 (.p v1 v2) (.cons 1 v1 c0 O)) v0 v2 rfl (sbU x3 x2) (Nat.le_of_eq (eq_of_beq h0)))) (sbZ u2))) (fun u3 => (lin [x3, (x3 - x2), x2, x0, x4, x1, (x0 - x1)] (.cons 1 v0 (.p v1 v2) (.cons 1 (.p v3 c1) v4 (.cons 1 v4 (.p v5 v0) (.cons 1 v1 c0 (.cons 1 (.p v6 v5) v3 O))))) (.p v6 c1) v2 rfl (sbU x3 x2) h2 (Nat.le_of_eq h3) (sbZ (lin [x3, (x3 - x2), x2] (.cons 1 v0 (.p v1 v2) (.cons 1 v1 c0 O)) v0 v2 rfl (sbU x3 x2) (Nat.le_of_eq (eq_of_beq h0)))) (sbE u3))))
theorem a191 {x0 x1 x2 : Nat}  (h0 : (x0 ≤ x1)) (h1 : (x1 < (x2 + 1))) (h2 : (x2 ≤ x0)) : (x0 = x1) := (Nat.le_antisymm (lin [x0, x1] (.cons 1 v0 v1 O) v0 v1 rfl h0) (lin [x1, x2, x0] (.cons 1 (.p v0 c1) (.p v1 c1) (.cons 1 v1 v2 O)) v0 v2 rfl h1 h2))
theorem a192 {x0 x1 x2 : Nat}  (h0 : (x0 ≤ (x1 + x2))) (h1 : (¬ (x0 = (x1 + x2)))) : (x0 ≤ ((x1 + x2) - 1)) := (Or.elim (neqC h1) (fun u2 => (lin [x1, x2, ((x1 + x2) - 1), x0] (.cons 1 (.p v0 v1) (.p v2 c1) (.cons 1 (.p v3 c1) (.p v0 v1) O)) v3 v2 rfl (sbU (x1 + x2) 1) u2)) (fun u3 => (lin [x0, x1, x2, ((x1 + x2) - 1)] (.cons 2 v0 (.p v1 v2) (.cons 1 (.p v1 v2) (.p v3 c1) (.cons 1 (.p (.p v1 v2) c1) v0 O))) v0 v3 rfl h0 (sbU (x1 + x2) 1) u3)))
theorem a193 {x0 x1 x2 : Nat}  (h0 : (x0 < (x1 + x2))) : (x0 ≤ ((x1 + x2) - 1)) := (lin [x0, x1, x2, ((x1 + x2) - 1)] (.cons 1 (.p v0 c1) (.p v1 v2) (.cons 1 (.p v1 v2) (.p v3 c1) O)) v0 v3 rfl h0 (sbU (x1 + x2) 1))
theorem a194 {x0 x1 x2 : Nat}  (h0 : (x0 ≤ x2)) (h1 : (x1 = x2)) : (x0 ≤ x1) := (lin [x0, x2, x1] (.cons 1 v0 v1 (.cons 1 v1 v2 O)) v0 v2 rfl h0 (Nat.le_of_eq (Eq.symm h1)))
theorem a195 {x0 x1 : Nat}  (h0 : (1 ≤ x1)) : (((x0 + x1) - 1) < (x0 + x1)) := (lin [((x0 + x1) - 1), x0, x1] (.cons 1 (.p v0 c1) (.p v1 v2) O) (.p v0 c1) (.p v1 v2) rfl (sbE (lin [x1, x0] (.cons 1 c1 v0 O) c1 (.p v1 v0) rfl h0)))
theorem a196 {x0 x1 x2 x3 x4 : Nat}  (h0 : ((x1 < x3) ∨ (x4 ≤ x1))) (h1 : (x2 ≤ x4)) (h2 : (x3 ≤ x0)) : (¬ ((x0 ≤ x1) ∧ (x1 < x2))) := (fun u1 => (Or.elim h0 (fun u2 => (linF [x3, x0, x1] (.cons 1 v0 v1 (.cons 1 v1 v2 (.cons 1 (.p v2 c1) v0 O))) rfl h2 (And.left u1) u2)) (fun u3 => (linF [x2, x4, x1] (.cons 1 v0 v1 (.cons 1 (.p v2 c1) v0 (.cons 1 v1 v2 O))) rfl h1 (And.right u1) u3))))
theorem a197 {x0 x1 x2 : Int} (h0 : (x0 ≤ x2)) (h1 : (x2 ≤ x1)) : (x0 ≤ x1) := (Int.le_trans h0 h1)
theorem a198 {x0 x1 : Nat}  (h0 : (x0 < x1)) : (x0 ≤ (x1 - 1)) := (lin [x0, x1, (x1 - 1)] (.cons 1 (.p v0 c1) v1 (.cons 1 v1 (.p v2 c1) O)) v0 v2 rfl h0 (sbU x1 1))
theorem a199 {x0 x1 x2 x3 : Nat}  (h0 : ((x0 - x1) ≤ (x2 - x3))) (h1 : (x1 ≤ x0)) (h2 : (x3 < x2)) : ((x0 - (((x1 + x0) / 2) + 1)) ≤ (x2 - (x3 + 1))) := (Or.elim (Nat.le_total x0 (((x1 + x0) / 2) + 1)) (fun u2 => (lin [(x0 - (((x1 + x0) / 2) + 1)), (x2 - (x3 + 1))] (.cons 1 v0 c0 O) v0 v1 rfl (sbZ u2))) (fun u3 => (Nat.le_of_not_lt fun u4 => (linF [x0, (x0 - x1), x1, (x2 - x3), ((x1 + x0) / 2), x2, (x2 - (x3 + 1)), x3, (x0 - (((x1 + x0) / 2) + 1))] (.cons 1 v0 (.p v1 v2) (.cons 1 v1 v3 (.cons 1 (.p v2 v0) (.p (.m 2 v4) c1) (.cons 1 v5 (.p v6 (.p v7 c1)) (.cons 1 (.p v3 v7) v5 (.cons 1 (.p v4 c1) v0 (.cons 1 (.p v8 (.p v4 c1)) v0 (.cons 1 (.p v6 c1) v8 O)))))))) rfl (sbU x0 x1) h0 (halfU (x1 + x0)) (sbU x2 (x3 + 1)) (sbE (lin [x3, x2] (.cons 1 (.p v0 c1) v1 O) v0 v1 rfl h2)) u3 (sbE u3) u4))))
theorem a200 {x0 x1 x2 : Int} (h0 : (x0 ≤ x2)) (h1 : (x1 ≤ x0)) (h2 : (x2 ≤ x1)) : (x0 = x1) := (Int.le_antisymm (Int.le_trans h0 h2) h1)
theorem a201 {x0 x1 x2 : Nat}  (h0 : (x0 < (x1 + (x2 + 1)))) (h1 : (¬ (x0 = (x1 + x2)))) : (x0 < (x1 + x2)) := (Or.elim (neqC h1) (fun u2 => (lin [x0, x1, x2] (.cons 1 (.p v0 c1) (.p v1 v2) O) (.p v0 c1) (.p v1 v2) rfl u2)) (fun u3 => (lin [x0, x1, x2] (.cons 2 (.p v0 c1) (.p v1 (.p v2 c1)) (.cons 1 (.p (.p v1 v2) c1) v0 O)) (.p v0 c1) (.p v1 v2) rfl h0 u3)))
theorem a202 {x0 x1 : Nat}  (h0 : (1 ≤ x1)) : (x0 ≤ ((x0 + x1) - 1)) := (lin [x1, x0, ((x0 + x1) - 1)] (.cons 1 c1 v0 (.cons 1 (.p v1 v0) (.p v2 c1) O)) v1 v2 rfl h0 (sbU (x0 + x1) 1))
theorem a203 {x0 x1 x2 : Int} (h0 : (x0 ≤ x2)) (h1 : (x2 < x1)) : (x0 ≤ x1) := (Int.le_of_lt (Int.lt_of_le_of_lt h0 h1))
theorem a204 {x0 x1 x2 : Nat}  (h0 : (x0 ≤ (x1 + x2))) (h1 : (¬ (x0 = (x1 + x2)))) : (x0 < (x1 + x2)) := (Or.elim (neqC h1) (fun u2 => (lin [x0, x1, x2] (.cons 1 (.p v0 c1) (.p v1 v2) O) (.p v0 c1) (.p v1 v2) rfl u2)) (fun u3 => (lin [x0, x1, x2] (.cons 2 v0 (.p v1 v2) (.cons 1 (.p (.p v1 v2) c1) v0 O)) (.p v0 c1) (.p v1 v2) rfl h0 u3)))
theorem a205 {x0 x1 x2 x3 : Int} (h0 : (x0 < (x3 + (1 : Int)))) (h1 : (x2 = x3)) (h2 : (x2 ≤ x1)) : (x0 ≤ x1) := (Int.le_trans (Int.le_trans (Int.le_of_lt_add_one h0) (Int.le_of_eq (Eq.symm h1))) h2)
theorem a206 {x0 x1 x2 x3 : Nat}  (h0 : ((x0 + x3) ≤ x2)) (h1 : (1 ≤ x1)) (h2 : (x1 < x3)) : (((x0 + x1) - 1) < x2) := (lin [x0, x3, x2, x1, ((x0 + x1) - 1)] (.cons 1 (.p v0 v1) v2 (.cons 1 (.p v3 c1) v1 (.cons 1 (.p v4 c1) (.p v0 v3) O))) (.p v4 c1) v2 rfl h0 h2 (sbE (lin [x1, x0] (.cons 1 c1 v0 O) c1 (.p v1 v0) rfl h1)))
theorem a207 {x0 x1 x2 : Int} (h0 : (x0 < x2)) (h1 : (x2 = x1)) : (x0 ≤ x1) := (Int.le_of_lt (Int.lt_of_lt_of_le h0 (Int.le_of_eq h1)))
theorem a208 {x0 x1 x2 x3 : Nat}  (h0 : (x0 ≤ x3)) (h1 : (x3 < (x1 + (x2 + 1)))) (h2 : (¬ (x3 = (x1 + x2)))) : (x0 < (x1 + x2)) := (Or.elim (neqC h2) (fun u2 => (lin [x0, x3, x1, x2] (.cons 1 v0 v1 (.cons 1 (.p v1 c1) (.p v2 v3) O)) (.p v0 c1) (.p v2 v3) rfl h0 u2)) (fun u3 => (lin [x0, x3, x1, x2] (.cons 1 v0 v1 (.cons 2 (.p v1 c1) (.p v2 (.p v3 c1)) (.cons 1 (.p (.p v2 v3) c1) v1 O))) (.p v0 c1) (.p v2 v3) rfl h0 h1 u3)))
theorem a209 {x0 x1 x2 x3 : Nat}  (h0 : (x1 < (((x2 + x3) / 2) + 1))) : ((x0 + x1) ≤ (x0 + ((x2 + x3) / 2))) := (lin [x1, ((x2 + x3) / 2), x0] (.cons 1 (.p v0 c1) (.p v1 c1) O) (.p v2 v0) (.p v2 v1) rfl h0)
theorem a211 {x0 x1 x2 : Nat}  (h0 : (x0 ≤ x2)) (h1 : (x2 < x1)) : (x0 < x1) := (lin [x0, x2, x1] (.cons 1 v0 v1 (.cons 1 (.p v1 c1) v2 O)) (.p v0 c1) v2 rfl h0 h1)
theorem a212 {x0 x1 : Nat}  (h0 : (x0 = x1)) : (x0 ≤ x1) := (lin [x0, x1] (.cons 1 v0 v1 O) v0 v1 rfl (Nat.le_of_eq h0))
theorem a213 {x0 x1 : Nat}  (h0 : (x0 < x1)) : (x0 ≤ x1) := (lin [x0, x1] (.cons 1 (.p v0 c1) v1 O) v0 v1 rfl h0)
theorem a214 {x0 x1 x2 : Nat}  (h0 : (x0 ≤ x2)) (h1 : (x2 ≤ x1)) : (x0 ≤ x1) := (lin [x0, x2, x1] (.cons 1 v0 v1 (.cons 1 v1 v2 O)) v0 v2 rfl h0 h1)
theorem a215 {x0 x1 x2 x3 : Nat}  (h0 : (((x0 + x3) + x1) ≤ x2)) (h1 : (1 ≤ x3)) : ((x0 + (x1 + 1)) ≤ x2) := (lin [x0, x3, x1, x2] (.cons 1 (.p (.p v0 v1) v2) v3 (.cons 1 c1 v1 O)) (.p v0 (.p v2 c1)) v3 rfl h0 h1)
theorem a216 {x0 x1 x2 x3 : Nat}  (h0 : (x2 ≤ x3)) (h1 : (¬ (x1 ≥ x2))) : ((x0 + ((x1 + x2) / 2)) < (x0 + x3)) := (Nat.le_of_not_lt fun u1 => (linF [x2, x3, x1, ((x1 + x2) / 2), x0] (.cons 2 v0 v1 (.cons 1 (.p v2 c1) v0 (.cons 1 (.m 2 v3) (.p v2 v0) (.cons 2 (.p (.p v4 v1) c1) (.p (.p v4 v3) c1) O)))) rfl h0 (Nat.lt_of_not_le h1) (halfL (x1 + x2)) u1))
theorem a218 {x0 x1 x2 x3 x4 : Nat}  (h0 : ((x0 + x3) ≤ x4)) (h1 : (x1 < x3)) (h2 : (x2 = x4)) : ((x0 + x1) < x2) := (lin [x0, x3, x4, x1, x2] (.cons 1 (.p v0 v1) v2 (.cons 1 (.p v3 c1) v1 (.cons 1 v2 v4 O))) (.p (.p v0 v3) c1) v4 rfl h0 h1 (Nat.le_of_eq (Eq.symm h2)))
theorem a219 {x0 x1 x2 x3 x4 : Nat}  (h0 : (((x2 + x3) + x4) ≤ x1)) (h1 : (x0 < (x2 + x3))) : (x0 < x1) := (lin [x2, x3, x4, x1, x0] (.cons 1 (.p (.p v0 v1) v2) v3 (.cons 1 (.p v4 c1) (.p v0 v1) O)) (.p v4 c1) v3 rfl h0 h1)
theorem a220 {x0 x1 : Nat}  (h0 : (0 < x0)) (h1 : (x0 ≤ x1)) : ((x0 - 1) ≤ x1) := (lin [x0, x1, (x0 - 1)] (.cons 1 v0 v1 (.cons 1 (.p v2 c1) v0 O)) v2 v1 rfl h1 (sbE (lin [x0] (.cons 1 (.p c0 c1) v0 O) c1 v0 rfl h0)))
theorem a221 {x0 x1 x2 x3 x4 x5 x6 : Nat}  (h0 : ((x4 + x6) ≤ x5)) (h1 : (1 ≤ x2)) (h2 : (x3 = x5)) (h3 : (x4 = (x0 + x2))) (h4 : (¬ (((x2 - x1) == 0) = true))) : ((((x0 + x1) + (x2 - x1)) - 1) < x3) := (Or.elim (neqC (fun q => h4 (beq_iff_eq.mpr q))) (fun u2 => (False.elim (linF [(x2 - x1)] (.cons 1 (.p v0 c1) c0 O) rfl u2))) (fun u3 => (Or.elim (Nat.le_total x2 x1) (fun u5 => (False.elim (linF [(x2 - x1)] (.cons 1 (.p c0 c1) v0 (.cons 1 v0 c0 O)) rfl u3 (sbZ u5)))) (fun u6 => (lin [x4, x6, x5, x3, x0, x2, (((x0 + x1) + (x2 - x1)) - 1), x1, (x2 - x1)] (.cons 1 (.p v0 v1) v2 (.cons 1 v2 v3 (.cons 1 (.p v4 v5) v0 (.cons 1 (.p v6 c1) (.p (.p v4 v7) v8) (.cons 1 (.p v8 v7) v5 O))))) (.p v6 c1) v3 rfl h0 (Nat.le_of_eq (Eq.symm h2)) (Nat.le_of_eq (Eq.symm h3)) (sbE (lin [x2, (x2 - x1), x1, x0] (.cons 1 c1 v0 (.cons 1 v0 (.p v1 v2) O)) c1 (.p (.p v3 v2) v1) rfl h1 (sbU x2 x1))) (sbE u6))))))
theorem a222 {x0 x1 x2 : Nat}  (h0 : ((x0 + x2) ≤ x1)) : (x0 ≤ x1) := (lin [x0, x2, x1] (.cons 1 (.p v0 v1) v2 O) v0 v2 rfl h0)
theorem a223 {x0 x1 x2 : Nat}   : (((x0 + x1) - (x0 + x2)) ≤ (x0 + x1)) := (lin [((x0 + x1) - (x0 + x2)), x0, x1] (.cons 1 v0 (.p v1 v2) O) v0 (.p v1 v2) rfl (Nat.sub_le (x0 + x1) (x0 + x2)))
theorem a224 {x0 x1 : Nat}  (h0 : ((x0 + 1) < x1)) : ((min x0 x1) = x0) := (Nat.le_antisymm (lin [(min x0 x1), x0] (.cons 1 v0 v1 O) v0 v1 rfl (Nat.min_le_left x0 x1)) (lin [x0, (min x0 x1)] (.cons 1 v0 v1 O) v0 v1 rfl (minA (lin [x0, x1] (.cons 1 (.p (.p v0 c1) c1) v1 O) v0 v1 rfl h0))))
theorem a225 {x0 : Nat}   : (1 ≤ (max 1 x0)) := (lin [(max 1 x0)] (.cons 1 c1 v0 O) c1 v0 rfl (Nat.le_max_left 1 x0))
theorem a226 {x0 x1 : Nat}  (h0 : (x0 = x1)) : (x0 ≤ (x1 + 1)) := (lin [x0, x1] (.cons 1 v0 v1 O) v0 (.p v1 c1) rfl (Nat.le_of_eq h0))
theorem a227 {x0 x1 x2 x3 : Nat}  (h0 : (1 ≤ x3)) (h1 : (x0 = (x1 + x3))) (h2 : (¬ (((x3 - x2) == 0) = true))) : ((x0 - 1) = (((x1 + x2) + (x3 - x2)) - 1)) := (Or.elim (neqC (fun q => h2 (beq_iff_eq.mpr q))) (fun u1 => (Nat.le_antisymm (lin [x0, x1, x3, (x3 - x2), x2, (((x1 + x2) + (x3 - x2)) - 1), (x0 - 1)] (.cons 1 v0 (.p v1 v2) (.cons 1 v2 (.p v3 v4) (.cons 1 (.p (.p v1 v4) v3) (.p v5 c1) (.cons 1 (.p v6 c1) v0 O)))) v6 v5 rfl (Nat.le_of_eq h1) (sbU x3 x2) (sbU ((x1 + x2) + (x3 - x2)) 1) (sbE (lin [(x3 - x2), x0] (.cons 1 (.p v0 c1) c0 O) c1 v1 rfl u1))) (False.elim (linF [(x3 - x2)] (.cons 1 (.p v0 c1) c0 O) rfl u1)))) (fun u2 => (Or.elim (Nat.le_total x3 x2) (fun u3 => (Nat.le_antisymm (lin [x0, x1, x3, x2, (x3 - x2), (((x1 + x2) + (x3 - x2)) - 1), (x0 - 1)] (.cons 1 v0 (.p v1 v2) (.cons 1 (.p (.p v1 v3) v4) (.p v5 c1) (.cons 1 v2 v3 (.cons 1 (.p v6 c1) v0 O)))) v6 v5 rfl (Nat.le_of_eq h1) (sbU ((x1 + x2) + (x3 - x2)) 1) u3 (sbE (lin [(x3 - x2), x0] (.cons 1 (.p c0 c1) v0 (.cons 1 v0 c0 O)) c1 v1 rfl u2 (sbZ u3)))) (False.elim (linF [(x3 - x2)] (.cons 1 (.p c0 c1) v0 (.cons 1 v0 c0 O)) rfl u2 (sbZ u3))))) (fun u4 => (Nat.le_antisymm (lin [x0, x1, x3, (x3 - x2), x2, (((x1 + x2) + (x3 - x2)) - 1), (x0 - 1)] (.cons 1 v0 (.p v1 v2) (.cons 1 v2 (.p v3 v4) (.cons 1 (.p (.p v1 v4) v3) (.p v5 c1) (.cons 1 (.p v6 c1) v0 O)))) v6 v5 rfl (Nat.le_of_eq h1) (sbU x3 x2) (sbU ((x1 + x2) + (x3 - x2)) 1) (sbE (lin [x3, x1, x0] (.cons 1 c1 v0 (.cons 1 (.p v1 v0) v2 O)) c1 v2 rfl h0 (Nat.le_of_eq (Eq.symm h1))))) (lin [x1, x3, x0, (x0 - 1), (x3 - x2), x2, (((x1 + x2) + (x3 - x2)) - 1)] (.cons 1 (.p v0 v1) v2 (.cons 1 v2 (.p v3 c1) (.cons 1 (.p v4 v5) v1 (.cons 1 (.p v6 c1) (.p (.p v0 v5) v4) O)))) v6 v3 rfl (Nat.le_of_eq (Eq.symm h1)) (sbU x0 1) (sbE u4) (sbE (lin [(x3 - x2), x1, x2] (.cons 1 (.p c0 c1) v0 O) c1 (.p (.p v1 v2) v0) rfl u2))))))))
theorem a228 {x0 : Nat}  (h0 : (1 ≤ x0)) : ((max 1 x0) ≤ x0) := (lin [(max 1 x0), x0] (.cons 1 v0 v1 O) v0 v1 rfl (maxB (lin [x0] (.cons 1 c1 v0 O) c1 v0 rfl h0)))
theorem a229 {x0 : Nat}   : (((x0 + 1) - x0) = 1) := (Nat.le_antisymm (lin [((x0 + 1) - x0), x0] (.cons 1 (.p v0 v1) (.p v1 c1) O) v0 c1 rfl (sbE (lin [x0] O v0 (.p v0 c1) rfl ))) (lin [x0, ((x0 + 1) - x0)] (.cons 1 (.p v0 c1) (.p v1 v0) O) c1 v1 rfl (sbU (x0 + 1) x0)))
theorem a230 {x0 x1 x2 x3 x4 : Nat}  (h0 : ((x0 < x1) ∨ ((x1 + x4) ≤ x0))) (h1 : (x2 < x4)) (h2 : (x3 ≤ x2)) : (¬ (x0 = ((x1 + x2) - ((x1 + x2) - (x1 + x3))))) := (fun u1 => (Or.elim h0 (fun u2 => (linF [x1, x2, ((x1 + x2) - ((x1 + x2) - (x1 + x3))), ((x1 + x2) - (x1 + x3)), x0, x3] (.cons 1 (.p v0 v1) (.p v2 v3) (.cons 1 v2 v4 (.cons 1 (.p v3 (.p v0 v5)) (.p v0 v1) (.cons 1 (.p v4 c1) v0 O)))) rfl (sbU (x1 + x2) ((x1 + x2) - (x1 + x3))) (Nat.le_of_eq (Eq.symm u1)) (sbE (lin [x3, x2, x1] (.cons 1 v0 v1 O) (.p v2 v0) (.p v2 v1) rfl h2)) u2)) (fun u3 => (linF [x2, x4, ((x1 + x2) - ((x1 + x2) - (x1 + x3))), x1, x0] (.cons 1 (.p v0 c1) v1 (.cons 1 v2 (.p v3 v0) (.cons 1 v4 v2 (.cons 1 (.p v3 v1) v4 O)))) rfl h1 (Nat.sub_le (x1 + x2) ((x1 + x2) - (x1 + x3))) (Nat.le_of_eq u1) u3))))
theorem a231 {x0 x1 x2 x3 x4 : Nat}  (h0 : (((x0 + x1) + x4) ≤ (x2 + x3))) (h1 : (0 < x0)) : ((((x0 - 1) + x1) + 1) ≤ (x2 + x3)) := (lin [x0, x1, x4, x2, x3, (x0 - 1)] (.cons 1 (.p (.p v0 v1) v2) (.p v3 v4) (.cons 1 (.p v5 c1) v0 O)) (.p (.p v5 v1) c1) (.p v3 v4) rfl h0 (sbE (lin [x0] (.cons 1 (.p c0 c1) v0 O) c1 v0 rfl h1)))
theorem a232 {x0 : Nat}  (h0 : (1 ≤ x0)) : ((max 1 x0) = x0) := (Nat.le_antisymm (lin [(max 1 x0), x0] (.cons 1 v0 v1 O) v0 v1 rfl (maxB (lin [x0] (.cons 1 c1 v0 O) c1 v0 rfl h0))) (lin [x0, (max 1 x0)] (.cons 1 v0 v1 O) v0 v1 rfl (Nat.le_max_right 1 x0)))
theorem a233 {x0 : Nat}   : (((x0 + 2) - x0) = 2) := (Nat.le_antisymm (lin [((x0 + 2) - x0), x0] (.cons 1 (.p v0 v1) (.p v1 c2) O) v0 c2 rfl (sbE (lin [x0] O v0 (.p v0 c2) rfl ))) (lin [x0, ((x0 + 2) - x0)] (.cons 1 (.p v0 c2) (.p v1 v0) O) c2 v1 rfl (sbU (x0 + 2) x0)))
theorem a234 {x0 x1 : Nat}  (h0 : (x0 < x1)) : (((x0 + 1) + (x1 - (x0 + 1))) ≤ x1) := (lin [(x1 - (x0 + 1)), x0, x1] (.cons 1 (.p v0 (.p v1 c1)) v2 O) (.p (.p v1 c1) v0) v2 rfl (sbE (lin [x0, x1] (.cons 1 (.p v0 c1) v1 O) (.p v0 c1) v1 rfl h0)))
theorem a235 {x0 x1 : Nat}  (h0 : (x0 = x1)) : (x0 ≤ (x1 + 2)) := (lin [x0, x1] (.cons 1 v0 v1 O) v0 (.p v1 c2) rfl (Nat.le_of_eq h0))
theorem a236 {x0 x1 x2 x3 : Nat}  (h0 : ((x0 + x1) ≤ x3)) (h1 : (x2 = x3)) : ((x0 + x1) ≤ x2) := (lin [x0, x1, x3, x2] (.cons 1 (.p v0 v1) v2 (.cons 1 v2 v3 O)) (.p v0 v1) v3 rfl h0 (Nat.le_of_eq (Eq.symm h1)))
theorem a237 {x0 x1 x2 x3 x4 : Nat}  (h0 : ((x3 < x0) ∨ ((x0 + x4) ≤ x3))) (h1 : (x1 < x4)) (h2 : (x2 ≤ x1)) : (¬ ((((x0 + x1) - ((x0 + x1) - (x0 + x2))) < x3) ∧ (x3 ≤ (x0 + x1)))) := (fun u1 => (Or.elim h0 (fun u2 => (linF [x0, x1, ((x0 + x1) - ((x0 + x1) - (x0 + x2))), ((x0 + x1) - (x0 + x2)), x3, x2] (.cons 1 (.p v0 v1) (.p v2 v3) (.cons 1 (.p v2 c1) v4 (.cons 1 (.p v3 (.p v0 v5)) (.p v0 v1) (.cons 1 (.p v4 c1) v0 O)))) rfl (sbU (x0 + x1) ((x0 + x1) - (x0 + x2))) (And.left u1) (sbE (lin [x2, x1, x0] (.cons 1 v0 v1 O) (.p v2 v0) (.p v2 v1) rfl h2)) u2)) (fun u3 => (linF [x1, x4, x3, x0] (.cons 1 (.p v0 c1) v1 (.cons 1 v2 (.p v3 v0) (.cons 1 (.p v3 v1) v2 O))) rfl h1 (And.right u1) u3))))
theorem a238 {x0 x1 x2 : Nat}  (h0 : ((x0 + x2) ≤ x1)) (h1 : (1 ≤ x2)) : (x0 < x1) := (lin [x0, x2, x1] (.cons 1 (.p v0 v1) v2 (.cons 1 c1 v1 O)) (.p v0 c1) v2 rfl h0 h1)
theorem a239 {x0 x1 : Nat}  (h0 : (x0 < x1)) : ((min (x0 + 1) x1) = (x0 + 1)) := (Nat.le_antisymm (lin [(min (x0 + 1) x1), x0] (.cons 1 v0 (.p v1 c1) O) v0 (.p v1 c1) rfl (Nat.min_le_left (x0 + 1) x1)) (lin [x0, (min (x0 + 1) x1)] (.cons 1 (.p v0 c1) v1 O) (.p v0 c1) v1 rfl (minA (lin [x0, x1] (.cons 1 (.p v0 c1) v1 O) (.p v0 c1) v1 rfl h0))))
theorem a240 {x0 x1 x2 x3 : Nat}  (h0 : ((x0 + x3) ≤ x2)) (h1 : (1 ≤ x1)) (h2 : (x1 ≤ x3)) : (((x0 + x1) - 1) < x2) := (lin [x0, x3, x2, x1, ((x0 + x1) - 1)] (.cons 1 (.p v0 v1) v2 (.cons 1 v3 v1 (.cons 1 (.p v4 c1) (.p v0 v3) O))) (.p v4 c1) v2 rfl h0 h2 (sbE (lin [x1, x0] (.cons 1 c1 v0 O) c1 (.p v1 v0) rfl h1)))
theorem a241 {x0 x1 x2 x3 : Nat}  (h0 : ((x0 + x3) ≤ x2)) (h1 : (x1 ≤ x3)) : ((x0 + x1) ≤ x2) := (lin [x0, x3, x2, x1] (.cons 1 (.p v0 v1) v2 (.cons 1 v3 v1 O)) (.p v0 v3) v2 rfl h0 h1)
theorem a242 {x0 x1 x2 x3 x4 x5 : Nat}  (h0 : ((((x0 + x1) + x2) + x5) ≤ x4)) (h1 : (x4 ≤ x3)) : (((x0 + x1) + x2) ≤ x3) := (lin [x0, x1, x2, x5, x4, x3] (.cons 1 (.p (.p (.p v0 v1) v2) v3) v4 (.cons 1 v4 v5 O)) (.p (.p v0 v1) v2) v5 rfl h0 h1)
theorem a243 {x0 x1 x2 : Nat}  (h0 : (x2 ≤ x1)) : (((x0 + x1) - ((x0 + x1) - (x0 + x2))) = (x0 + x2)) := (Nat.le_antisymm (lin [x0, x1, ((x0 + x1) - (x0 + x2)), x2, ((x0 + x1) - ((x0 + x1) - (x0 + x2)))] (.cons 1 (.p v0 v1) (.p v2 (.p v0 v3)) (.cons 1 (.p v4 v2) (.p v0 v1) O)) v4 (.p v0 v3) rfl (sbU (x0 + x1) (x0 + x2)) (sbE (lin [((x0 + x1) - (x0 + x2)), x0, x1] (.cons 1 v0 (.p v1 v2) O) v0 (.p v1 v2) rfl (Nat.sub_le (x0 + x1) (x0 + x2))))) (lin [x0, x1, ((x0 + x1) - ((x0 + x1) - (x0 + x2))), ((x0 + x1) - (x0 + x2)), x2] (.cons 1 (.p v0 v1) (.p v2 v3) (.cons 1 (.p v3 (.p v0 v4)) (.p v0 v1) O)) (.p v0 v4) v2 rfl (sbU (x0 + x1) ((x0 + x1) - (x0 + x2))) (sbE (lin [x2, x1, x0] (.cons 1 v0 v1 O) (.p v2 v0) (.p v2 v1) rfl h0))))
theorem a244 {x0 x1 x2 : Nat}  (h0 : ((x0 == 0) = true)) : (x0 ≤ (x1 - x2)) := (lin [x0, (x1 - x2)] (.cons 1 v0 c0 O) v0 v1 rfl (Nat.le_of_eq (eq_of_beq h0)))
theorem a245 {x0 x1 x2 : Nat}  (h0 : (x0 < (x1 + x2))) (h1 : (x1 ≤ x0)) : ((x0 - x1) < x2) := (lin [x0, x1, x2, (x0 - x1)] (.cons 1 (.p v0 c1) (.p v1 v2) (.cons 1 (.p v3 v1) v0 O)) (.p v3 c1) v2 rfl h0 (sbE (lin [x1, x0] (.cons 1 v0 v1 O) v0 v1 rfl h1)))
theorem a246 {x0 x1 x2 x3 x4 x5 : Nat}  (h0 : ((((x1 + x2) + x3) + x5) ≤ x4)) (h1 : (x4 ≤ x0)) : ((x0 < x1) ∨ (((x1 + x2) + x3) ≤ x0)) := (Or.inr (lin [x1, x2, x3, x5, x4, x0] (.cons 1 (.p (.p (.p v0 v1) v2) v3) v4 (.cons 1 v4 v5 O)) (.p (.p v0 v1) v2) v5 rfl h0 h1))
theorem a247 {x0 x1 x2 : Nat}  (h0 : ((x0 ≤ x1) ∧ (x1 < (x0 + x2)))) : (x0 ≤ x1) := (lin [x0, x1] (.cons 1 v0 v1 O) v0 v1 rfl (And.left h0))
theorem a248 {x0 x1 x2 : Nat}  (h0 : (1 ≤ x2)) (h1 : (x0 < (x1 + x2))) : ((x0 - x1) < x2) := (Or.elim (Nat.le_total x0 x1) (fun u2 => (lin [x2, (x0 - x1)] (.cons 1 c1 v0 (.cons 1 v1 c0 O)) (.p v1 c1) v0 rfl h0 (sbZ u2))) (fun u3 => (lin [x0, x1, x2, (x0 - x1)] (.cons 1 (.p v0 c1) (.p v1 v2) (.cons 1 (.p v3 v1) v0 O)) (.p v3 c1) v2 rfl h1 (sbE u3))))
theorem a249 {x0 x1 x2 : Nat}  (h0 : ((x1 ≤ x0) ∧ (x0 < (x1 + x2)))) : (x0 < (x1 + (x2 + 1))) := (lin [x0, x1, x2] (.cons 1 (.p v0 c1) (.p v1 v2) O) (.p v0 c1) (.p v1 (.p v2 c1)) rfl (And.right h0))
theorem a250 {x0 x1 : Nat}  (h0 : (1 ≤ x0)) : (1 ≤ (x0 + x1)) := (lin [x0, x1] (.cons 1 c1 v0 O) c1 (.p v0 v1) rfl h0)
theorem a251 {x0 x1 x2 : Nat}  (h0 : ((x2 + x0) ≤ x1)) : (x0 ≤ (x1 - x2)) := (lin [x2, x0, x1, (x1 - x2)] (.cons 1 (.p v0 v1) v2 (.cons 1 v2 (.p v3 v0) O)) v1 v3 rfl h0 (sbU x1 x2))
theorem a252 {x0 x1 x2 x3 x4 : Nat}  (h0 : (((x0 + x1) + x2) ≤ (x3 + x4))) (h1 : (0 < x0)) : ((((x0 - 1) + x1) + (x2 + 1)) ≤ (x3 + x4)) := (lin [x0, x1, x2, x3, x4, (x0 - 1)] (.cons 1 (.p (.p v0 v1) v2) (.p v3 v4) (.cons 1 (.p v5 c1) v0 O)) (.p (.p v5 v1) (.p v2 c1)) (.p v3 v4) rfl h0 (sbE (lin [x0] (.cons 1 (.p c0 c1) v0 O) c1 v0 rfl h1)))
theorem a253 {x0 x1 x2 x3 : Nat}  (h0 : (((x1 + x2) + x3) ≤ x0)) : ((x0 < x1) ∨ (((x1 + x2) + x3) ≤ x0)) := (Or.inr (lin [x1, x2, x3, x0] (.cons 1 (.p (.p v0 v1) v2) v3 O) (.p (.p v0 v1) v2) v3 rfl h0))
theorem a254 {x0 x1 x2 : Nat}  (h0 : ((x0 ≤ x2) ∧ (x2 < (x0 + x1)))) : (x0 ≤ (((x0 + (x0 + x1)) - 1) - x2)) := (lin [x2, x0, x1, ((x0 + (x0 + x1)) - 1), (((x0 + (x0 + x1)) - 1) - x2)] (.cons 1 (.p v0 c1) (.p v1 v2) (.cons 1 v3 (.p v4 v0) (.cons 1 (.p v1 (.p v1 v2)) (.p v3 c1) O))) v1 v4 rfl (And.right h0) (sbU ((x0 + (x0 + x1)) - 1) x2) (sbU (x0 + (x0 + x1)) 1))
theorem a255 {x0 x1 x2 x3 : Nat}  (h0 : ((x1 + x3) ≤ x0)) (h1 : (x0 < (x1 + x2))) : ((x0 - x1) < x2) := (lin [x0, x1, x2, (x0 - x1)] (.cons 1 (.p v0 c1) (.p v1 v2) (.cons 1 (.p v3 v1) v0 O)) (.p v3 c1) v2 rfl h1 (sbE (lin [x1, x3, x0] (.cons 1 (.p v0 v1) v2 O) v0 v2 rfl h0)))
theorem a256 {x0 x1 x2 : Nat}  (h0 : ((x0 ≤ x2) ∧ (x2 < (x0 + x1)))) : ((((x0 + (x0 + x1)) - 1) - x2) < (x0 + (x1 + 1))) := (lin [x0, x2, (((x0 + (x0 + x1)) - 1) - x2), ((x0 + (x0 + x1)) - 1), x1] (.cons 1 v0 v1 (.cons 1 (.p v2 v1) v3 (.cons 1 (.p v3 c1) (.p v0 (.p v0 v4)) O))) (.p v2 c1) (.p v0 (.p v4 c1)) rfl (And.left h0) (sbE (lin [x2, x0, x1, ((x0 + (x0 + x1)) - 1)] (.cons 1 (.p v0 c1) (.p v1 v2) (.cons 1 (.p v1 (.p v1 v2)) (.p v3 c1) O)) v0 v3 rfl (And.right h0) (sbU (x0 + (x0 + x1)) 1))) (sbE (lin [x2, x0, x1] (.cons 1 (.p v0 c1) (.p v1 v2) O) c1 (.p v1 (.p v1 v2)) rfl (And.right h0))))
theorem a257 {x0 x1 x2 : Nat}  (h0 : ((x0 + x2) ≤ x1)) : ((x0 + (x1 - x0)) = x1) := (Nat.le_antisymm (lin [(x1 - x0), x0, x1] (.cons 1 (.p v0 v1) v2 O) (.p v1 v0) v2 rfl (sbE (lin [x0, x2, x1] (.cons 1 (.p v0 v1) v2 O) v0 v2 rfl h0))) (lin [x1, (x1 - x0), x0] (.cons 1 v0 (.p v1 v2) O) v0 (.p v2 v1) rfl (sbU x1 x0)))
theorem a258 {x0 x1 x2 : Nat}  (h0 : ((x2 + 1) < x1)) (h1 : (x0 = ((min x2 x1) + ((x1 - (x2 + 2)) + 1)))) : ((x0 + 1) = x1) := (Nat.le_antisymm (lin [(min x2 x1), x2, x0, (x1 - (x2 + 2)), x1] (.cons 1 v0 v1 (.cons 1 v2 (.p v0 (.p v3 c1)) (.cons 1 (.p v3 (.p v1 c2)) v4 O))) (.p v2 c1) v4 rfl (Nat.min_le_left x2 x1) (Nat.le_of_eq h1) (sbE (lin [x2, x1] (.cons 1 (.p (.p v0 c1) c1) v1 O) (.p v0 c2) v1 rfl h0))) (lin [x1, (x1 - (x2 + 2)), x2, (min x2 x1), x0] (.cons 1 v0 (.p v1 (.p v2 c2)) (.cons 1 (.p v3 (.p v1 c1)) v4 (.cons 1 v2 v3 O))) v0 (.p v4 c1) rfl (sbU x1 (x2 + 2)) (Nat.le_of_eq (Eq.symm h1)) (minA (lin [x2, x1] (.cons 1 (.p (.p v0 c1) c1) v1 O) v0 v1 rfl h0))))
theorem a259 {x0 x1 : Nat}  (h0 : (¬ (x1 < x0))) : ((x0 + (x1 - x0)) = x1) := (Nat.le_antisymm (lin [(x1 - x0), x0, x1] (.cons 1 (.p v0 v1) v2 O) (.p v1 v0) v2 rfl (sbE (lin [x0, x1] (.cons 1 v0 v1 O) v0 v1 rfl (Nat.le_of_not_lt h0)))) (lin [x1, (x1 - x0), x0] (.cons 1 v0 (.p v1 v2) O) v0 (.p v2 v1) rfl (sbU x1 x0)))
theorem a260 {x0 x1 : Nat}  (h0 : (x1 < x0)) (h1 : (¬ (((x1 + 1) == x0) = true))) : (0 < (x0 - (x1 + 1))) := (Or.elim (neqC (fun q => h1 (beq_iff_eq.mpr q))) (fun u2 => (lin [x0, (x0 - (x1 + 1)), x1] (.cons 1 v0 (.p v1 (.p v2 c1)) (.cons 1 (.p (.p v2 c1) c1) v0 O)) (.p c0 c1) v1 rfl (sbU x0 (x1 + 1)) u2)) (fun u3 => (lin [(x0 - (x1 + 1)), x1, x0] (.cons 1 (.p v0 (.p v1 c1)) v2 (.cons 1 (.p v2 c1) (.p v1 c1) O)) (.p c0 c1) v0 rfl (sbE (lin [x1, x0] (.cons 1 (.p v0 c1) v1 O) (.p v0 c1) v1 rfl h0)) u3)))
theorem a261 {x0 x1 x2 : Nat}  (h0 : ((x1 ≤ x0) ∧ (x0 < (x1 + x2)))) : (x0 < (x1 + x2)) := (lin [x0, x1, x2] (.cons 1 (.p v0 c1) (.p v1 v2) O) (.p v0 c1) (.p v1 v2) rfl (And.right h0))
theorem a262 {x0 : Nat}  (h0 : (1 < x0)) : (0 < x0) := (lin [x0] (.cons 1 (.p c1 c1) v0 O) (.p c0 c1) v0 rfl h0)
theorem a263 {x0 x1 x2 : Nat}  (h0 : ((x0 ≤ x2) ∧ (x2 < (x0 + x1)))) : ((((x0 + (x0 + x1)) - 1) - x2) < (x0 + x1)) := (lin [x0, x2, (((x0 + (x0 + x1)) - 1) - x2), ((x0 + (x0 + x1)) - 1), x1] (.cons 1 v0 v1 (.cons 1 (.p v2 v1) v3 (.cons 1 (.p v3 c1) (.p v0 (.p v0 v4)) O))) (.p v2 c1) (.p v0 v4) rfl (And.left h0) (sbE (lin [x2, x0, x1, ((x0 + (x0 + x1)) - 1)] (.cons 1 (.p v0 c1) (.p v1 v2) (.cons 1 (.p v1 (.p v1 v2)) (.p v3 c1) O)) v0 v3 rfl (And.right h0) (sbU (x0 + (x0 + x1)) 1))) (sbE (lin [x2, x0, x1] (.cons 1 (.p v0 c1) (.p v1 v2) O) c1 (.p v1 (.p v1 v2)) rfl (And.right h0))))
theorem a264 {x0 x1 x2 : Nat}  (h0 : (1 ≤ x1)) (h1 : (x0 = (x2 + x1))) : ((x0 - 1) < x0) := (lin [(x0 - 1), x0] (.cons 1 (.p v0 c1) v1 O) (.p v0 c1) v1 rfl (sbE (lin [x1, x2, x0] (.cons 1 c1 v0 (.cons 1 (.p v1 v0) v2 O)) c1 v2 rfl h0 (Nat.le_of_eq (Eq.symm h1)))))
theorem a265 {x0 x1 x2 : Int} (h0 : (x0 ≤ x2)) (h1 : (¬ (x1 < x2))) : (x0 ≤ x1) := (Int.le_trans h0 (Int.not_lt.mp h1))
theorem a266 {x0 x1 x2 : Int} (h0 : (x0 ≤ x2)) (h1 : (x1 ≤ x2)) (h2 : (x2 ≤ x0)) (h3 : (x2 ≤ x1)) : (x0 = x1) := (Int.le_antisymm (Int.le_trans h0 h3) (Int.le_trans h1 h2))
theorem a267 {x0 x1 x2 x3 : Int} (h0 : (x0 ≤ x2)) (h1 : (x2 = x3)) (h2 : (¬ (x1 < x3))) : (x0 ≤ x1) := (Int.le_trans (Int.le_trans h0 (Int.le_of_eq h1)) (Int.not_lt.mp h2))
theorem a269 {x0 x1 : Nat}   : ((x0 + x1) ≤ (x0 + (x1 + 1))) := (lin [x0, x1] O (.p v0 v1) (.p v0 (.p v1 c1)) rfl )
theorem a270 {x0 x1 x2 x3 : Nat}  (h0 : (x3 = (x0 + x1))) (h1 : (x3 ≤ x2)) (h2 : (¬ (x2 = (x0 + x1)))) : ((x0 + x1) ≤ (x2 - 1)) := (Or.elim (neqC h2) (fun u2 => (lin [x0, x1, x3, x2, (x2 - 1)] (.cons 2 (.p v0 v1) v2 (.cons 2 v2 v3 (.cons 1 v3 (.p v4 c1) (.cons 1 (.p v3 c1) (.p v0 v1) O)))) (.p v0 v1) v4 rfl (Nat.le_of_eq (Eq.symm h0)) h1 (sbU x2 1) u2)) (fun u3 => (lin [x2, (x2 - 1), x0, x1] (.cons 1 v0 (.p v1 c1) (.cons 1 (.p (.p v2 v3) c1) v0 O)) (.p v2 v3) v1 rfl (sbU x2 1) u3)))
theorem a271 {x0 x1 x2 : Nat}  (h0 : (((x1 + (x2 + 1)) - (0 + 1)) ≤ x0)) (h1 : (x0 < (x1 + (x2 + 1)))) : (x0 = ((x1 + (x2 + 1)) - 1)) := (Nat.le_antisymm (lin [x0, x1, x2, ((x1 + (x2 + 1)) - 1)] (.cons 1 (.p v0 c1) (.p v1 (.p v2 c1)) (.cons 1 (.p v1 (.p v2 c1)) (.p v3 c1) O)) v0 v3 rfl h1 (sbU (x1 + (x2 + 1)) 1)) (lin [x1, x2, ((x1 + (x2 + 1)) - (0 + 1)), x0, ((x1 + (x2 + 1)) - 1)] (.cons 1 (.p v0 (.p v1 c1)) (.p v2 (.p c0 c1)) (.cons 1 v2 v3 (.cons 1 (.p v4 c1) (.p v0 (.p v1 c1)) O))) v4 v3 rfl (sbU (x1 + (x2 + 1)) (0 + 1)) h0 (sbE (lin [x1, x2] O c1 (.p v0 (.p v1 c1)) rfl ))))
theorem a272 {x0 : Nat}  (h0 : (1 < x0)) (h1 : (¬ (((x0 - 1) == 1) = true))) : (1 < (x0 - 1)) := (Or.elim (neqC (fun q => h1 (beq_iff_eq.mpr q))) (fun u2 => (lin [x0, (x0 - 1)] (.cons 2 (.p c1 c1) v0 (.cons 2 v0 (.p v1 c1) (.cons 1 (.p v1 c1) c1 O))) (.p c1 c1) v1 rfl h0 (sbU x0 1) u2)) (fun u3 => (lin [(x0 - 1)] (.cons 1 (.p c1 c1) v0 O) (.p c1 c1) v0 rfl u3)))
theorem a273 {x0 : Nat}   : ((0 + 1) ≤ (x0 + 1)) := (lin [x0] O (.p c0 c1) (.p v0 c1) rfl )
theorem a274 {x0 x1 x2 x3 x4 : Nat}  (h0 : (x0 < (x1 + (x2 + 1)))) (h1 : (x3 = (x1 + x4))) (h2 : (x3 ≤ x0)) (h3 : (¬ (x0 = (x1 + x4)))) : ((x0 - 1) < (x1 + x2)) := (Or.elim (neqC h3) (fun u2 => (lin [x0, x1, x2, (x0 - 1)] (.cons 1 (.p v0 c1) (.p v1 (.p v2 c1)) (.cons 1 (.p v3 c1) v0 O)) (.p v3 c1) (.p v1 v2) rfl h0 (sbE (lin [x1, x4, x3, x0] (.cons 1 (.p v0 v1) v2 (.cons 1 v2 v3 (.cons 1 (.p v3 c1) (.p v0 v1) O))) c1 v3 rfl (Nat.le_of_eq (Eq.symm h1)) h2 u2)))) (fun u3 => (lin [x0, x1, x2, (x0 - 1)] (.cons 1 (.p v0 c1) (.p v1 (.p v2 c1)) (.cons 1 (.p v3 c1) v0 O)) (.p v3 c1) (.p v1 v2) rfl h0 (sbE (lin [x1, x4, x0] (.cons 1 (.p (.p v0 v1) c1) v2 O) c1 v2 rfl u3)))))
theorem a275 {x0 x1 x2 x3 x4 x5 x6 : Nat}  (h0 : ((x0 + x6) ≤ x5)) (h1 : (x0 = (x2 + x4))) (h2 : (x1 = x5)) (h3 : (¬ (((x4 - x3) == 0) = true))) : (((min x0 x1) - (x2 + x3)) = (x4 - x3)) := (Or.elim (neqC (fun q => h3 (beq_iff_eq.mpr q))) (fun u1 => (Nat.le_antisymm (lin [((min x0 x1) - (x2 + x3)), (x4 - x3)] (.cons 1 v0 c0 O) v0 v1 rfl (sbZ (lin [x0, x2, x4, (x4 - x3), x3, (min x0 x1)] (.cons 1 v0 (.p v1 v2) (.cons 1 v2 (.p v3 v4) (.cons 1 v5 v0 (.cons 1 v3 c0 O)))) v5 (.p v1 v4) rfl (Nat.le_of_eq h1) (sbU x4 x3) (Nat.min_le_left x0 x1) (sbZ (lin [x4, (x4 - x3), x3] (.cons 1 v0 (.p v1 v2) (.cons 1 (.p v1 c1) c0 O)) v0 v2 rfl (sbU x4 x3) u1))))) (lin [(x4 - x3), ((min x0 x1) - (x2 + x3))] (.cons 1 v0 c0 O) v0 v1 rfl (sbZ (lin [x4, (x4 - x3), x3] (.cons 1 v0 (.p v1 v2) (.cons 1 (.p v1 c1) c0 O)) v0 v2 rfl (sbU x4 x3) u1))))) (fun u2 => (Or.elim (Nat.le_total x4 x3) (fun u3 => (Nat.le_antisymm (lin [((min x0 x1) - (x2 + x3)), (x4 - x3)] (.cons 1 v0 c0 O) v0 v1 rfl (sbZ (lin [x0, x2, x4, (min x0 x1), x3] (.cons 1 v0 (.p v1 v2) (.cons 1 v3 v0 (.cons 1 v2 v4 O))) v3 (.p v1 v4) rfl (Nat.le_of_eq h1) (Nat.min_le_left x0 x1) u3))) (lin [(x4 - x3), ((min x0 x1) - (x2 + x3))] (.cons 1 v0 c0 O) v0 v1 rfl (sbZ u3)))) (fun u4 => (Nat.le_antisymm (lin [x0, x2, x4, (x4 - x3), x3, (min x0 x1), ((min x0 x1) - (x2 + x3))] (.cons 1 v0 (.p v1 v2) (.cons 1 v2 (.p v3 v4) (.cons 1 v5 v0 (.cons 1 (.p v6 (.p v1 v4)) v5 O)))) v6 v3 rfl (Nat.le_of_eq h1) (sbU x4 x3) (Nat.min_le_left x0 x1) (sbE (lin [x2, x4, x0, (x4 - x3), x3, (min x0 x1)] (.cons 1 (.p v0 v1) v2 (.cons 1 (.p v3 v4) v1 (.cons 1 v2 v5 O))) (.p v0 v4) v5 rfl (Nat.le_of_eq (Eq.symm h1)) (sbE u4) (minA (lin [x0, x6, x5, x1] (.cons 1 (.p v0 v1) v2 (.cons 1 v2 v3 O)) v0 v3 rfl h0 (Nat.le_of_eq (Eq.symm h2))))))) (lin [x2, x4, x0, (min x0 x1), ((min x0 x1) - (x2 + x3)), x3, (x4 - x3)] (.cons 1 (.p v0 v1) v2 (.cons 1 v3 (.p v4 (.p v0 v5)) (.cons 1 (.p v6 v5) v1 (.cons 1 v2 v3 O)))) v6 v4 rfl (Nat.le_of_eq (Eq.symm h1)) (sbU (min x0 x1) (x2 + x3)) (sbE u4) (minA (lin [x0, x6, x5, x1] (.cons 1 (.p v0 v1) v2 (.cons 1 v2 v3 O)) v0 v3 rfl h0 (Nat.le_of_eq (Eq.symm h2))))))))))
theorem a276 {x0 x1 x2 x3 x4 : Nat}  (h0 : (x0 = (x2 + x3))) (h1 : (x0 ≤ x1)) (h2 : (x1 < (x2 + (x4 + 1)))) (h3 : (¬ (((x2 + x3) < x1) ∧ (x1 ≤ (x2 + x4))))) (h4 : (¬ (x1 = (x2 + x3)))) : False := (Or.elim (Decidable.not_and_iff_or_not.mp h3) (fun u1 => (Or.elim (neqC h4) (fun u3 => (linF [x2, x3, x0, x1] (.cons 1 (.p v0 v1) v2 (.cons 1 v2 v3 (.cons 1 (.p v3 c1) (.p v0 v1) O))) rfl (Nat.le_of_eq (Eq.symm h0)) h1 u3)) (fun u4 => (linF [x1, x2, x3] (.cons 1 v0 (.p v1 v2) (.cons 1 (.p (.p v1 v2) c1) v0 O)) rfl (Nat.le_of_not_lt u1) u4)))) (fun u2 => (linF [x1, x2, x4] (.cons 1 (.p v0 c1) (.p v1 (.p v2 c1)) (.cons 1 (.p (.p v1 v2) c1) v0 O)) rfl h2 (Nat.lt_of_not_le u2))))
theorem a277 {x0 x1 x2 x3 x4 : Nat}  (h0 : (((x2 + x3) < x0) ∧ (x0 ≤ (x2 + x4)))) (h1 : (x0 ≤ x1)) (h2 : (x1 = (x2 + x3))) : False := (linF [x2, x3, x0, x1] (.cons 1 (.p (.p v0 v1) c1) v2 (.cons 1 v2 v3 (.cons 1 v3 (.p v0 v1) O))) rfl (And.left h0) h1 (Nat.le_of_eq h2))
theorem a278 {x0 x1 : Nat}  (h0 : (1 < x0)) (h1 : (x0 ≤ x1)) : ((x0 - 1) ≤ x1) := (lin [x0, x1, (x0 - 1)] (.cons 1 v0 v1 (.cons 1 (.p v2 c1) v0 O)) v2 v1 rfl h1 (sbE (lin [x0] (.cons 1 (.p c1 c1) v0 O) c1 v0 rfl h0)))
theorem a279 {x0 x1 x2 x3 x4 : Nat}  (h0 : ((x0 + x4) ≤ x2)) (h1 : ((x3 + 1) ≤ x1)) (h2 : (x1 < x4)) : (((x0 + x1) - 1) < x2) := (lin [x0, x4, x2, x1, ((x0 + x1) - 1)] (.cons 1 (.p v0 v1) v2 (.cons 1 (.p v3 c1) v1 (.cons 1 (.p v4 c1) (.p v0 v3) O))) (.p v4 c1) v2 rfl h0 h2 (sbE (lin [x3, x1, x0] (.cons 1 (.p v0 c1) v1 O) c1 (.p v2 v1) rfl h1)))
theorem a280 {x0 x1 x2 x3 x4 : Nat}  (h0 : ((x0 + x3) ≤ x4)) (h1 : (x1 ≤ x3)) (h2 : (x2 = x4)) : (((min (x0 + x1) x2) - x0) = x1) := (Nat.le_antisymm (lin [(min (x0 + x1) x2), x0, x1, ((min (x0 + x1) x2) - x0)] (.cons 1 v0 (.p v1 v2) (.cons 1 (.p v3 v1) v0 O)) v3 v2 rfl (Nat.min_le_left (x0 + x1) x2) (sbE (lin [x0, x1, (min (x0 + x1) x2)] (.cons 1 (.p v0 v1) v2 O) v0 v2 rfl (minA (lin [x0, x3, x4, x1, x2] (.cons 1 (.p v0 v1) v2 (.cons 1 v3 v1 (.cons 1 v2 v4 O))) (.p v0 v3) v4 rfl h0 h1 (Nat.le_of_eq (Eq.symm h2))))))) (lin [(min (x0 + x1) x2), ((min (x0 + x1) x2) - x0), x0, x1] (.cons 1 v0 (.p v1 v2) (.cons 1 (.p v2 v3) v0 O)) v3 v1 rfl (sbU (min (x0 + x1) x2) x0) (minA (lin [x0, x3, x4, x1, x2] (.cons 1 (.p v0 v1) v2 (.cons 1 v3 v1 (.cons 1 v2 v4 O))) (.p v0 v3) v4 rfl h0 h1 (Nat.le_of_eq (Eq.symm h2))))))
theorem a281 {x0 x1 x2 x3 x4 : Nat}  (h0 : (((x0 + x1) + x4) ≤ (x2 + x3))) (h1 : (1 < x1)) : (((x0 + (x1 - 1)) + 1) ≤ (x2 + x3)) := (lin [x0, x1, x4, x2, x3, (x1 - 1)] (.cons 1 (.p (.p v0 v1) v2) (.p v3 v4) (.cons 1 (.p v5 c1) v1 O)) (.p (.p v0 v5) c1) (.p v3 v4) rfl h0 (sbE (lin [x1] (.cons 1 (.p c1 c1) v0 O) c1 v0 rfl h1)))
theorem a282 {x0 x1 x2 : Nat}  (h0 : ((x2 + 1) ≤ x1)) : (((x0 + x1) - 1) < (x0 + x1)) := (lin [((x0 + x1) - 1), x0, x1] (.cons 1 (.p v0 c1) (.p v1 v2) O) (.p v0 c1) (.p v1 v2) rfl (sbE (lin [x2, x1, x0] (.cons 1 (.p v0 c1) v1 O) c1 (.p v2 v1) rfl h0)))
theorem a284 {x0 x1 x2 x3 : Nat}  (h0 : ((x0 + x3) ≤ x2)) (h1 : (x1 = x2)) : (x0 ≤ x1) := (lin [x0, x3, x2, x1] (.cons 1 (.p v0 v1) v2 (.cons 1 v2 v3 O)) v0 v3 rfl h0 (Nat.le_of_eq (Eq.symm h1)))
theorem a285 {x0 x1 x2 x3 : Nat}  (h0 : ((x0 + x3) ≤ x2)) (h1 : (x1 < x3)) : ((x0 + x1) ≤ x2) := (lin [x0, x3, x2, x1] (.cons 1 (.p v0 v1) v2 (.cons 1 (.p v3 c1) v1 O)) (.p v0 v3) v2 rfl h0 h1)
theorem a286 {x0 x1 x2 x3 : Nat}  (h0 : (x0 < (x1 + x3))) (h1 : (x3 ≤ x2)) : (x0 < (x1 + x2)) := (lin [x0, x1, x3, x2] (.cons 1 (.p v0 c1) (.p v1 v2) (.cons 1 v2 v3 O)) (.p v0 c1) (.p v1 v3) rfl h0 h1)
theorem a287 {x0 x1 x2 x3 : Nat}  (h0 : (((x0 + x2) < x1) ∧ (x1 ≤ (x0 + x3)))) : (x0 ≤ (x1 - 1)) := (lin [x0, x2, x1, (x1 - 1)] (.cons 1 (.p (.p v0 v1) c1) v2 (.cons 1 v2 (.p v3 c1) O)) v0 v3 rfl (And.left h0) (sbU x1 1))
theorem a288 {x0 x1 x2 x3 x4 x5 x6 : Nat}  (h0 : (((x0 + x1) + x2) ≤ (x6 + x5))) (h1 : ((x5 + 1) ≤ x4)) (h2 : (x6 ≤ x3)) : (((x0 + x1) + (x2 + 1)) ≤ ((x3 + 1) + x4)) := (lin [x0, x1, x2, x6, x5, x4, x3] (.cons 1 (.p (.p v0 v1) v2) (.p v3 v4) (.cons 1 (.p v4 c1) v5 (.cons 1 v3 v6 O))) (.p (.p v0 v1) (.p v2 c1)) (.p (.p v6 c1) v5) rfl h0 h1 h2)
theorem a289 {x0 x1 x2 x3 x4 : Nat}  (h0 : (((x2 + x3) < x0) ∧ (x0 ≤ (x2 + x4)))) (h1 : (x0 ≤ x1)) : ((x0 - 1) ≤ (x1 - 1)) := (lin [x0, x1, (x1 - 1), (x0 - 1)] (.cons 1 v0 v1 (.cons 1 v1 (.p v2 c1) (.cons 1 (.p v3 c1) v0 O))) v3 v2 rfl h1 (sbU x1 1) (sbE (lin [x2, x3, x0] (.cons 1 (.p (.p v0 v1) c1) v2 O) c1 v2 rfl (And.left h0))))
theorem a290 {x0 x1 x2 : Nat}  (h0 : ((x2 + 1) ≤ x1)) : (x0 ≤ ((x0 + x1) - (x2 + 1))) := (lin [x2, x1, x0, ((x0 + x1) - (x2 + 1))] (.cons 1 (.p v0 c1) v1 (.cons 1 (.p v2 v1) (.p v3 (.p v0 c1)) O)) v2 v3 rfl h0 (sbU (x0 + x1) (x2 + 1)))
theorem a291 {x0 x1 x2 x3 x4 : Nat}  (h0 : (((x1 + x4) < x3) ∧ (x3 ≤ (x1 + x2)))) (h1 : (x0 < (x1 + (x2 + 1)))) (h2 : (x3 ≤ x0)) : ((x0 - 1) < (x1 + x2)) := (lin [x0, x1, x2, (x0 - 1)] (.cons 1 (.p v0 c1) (.p v1 (.p v2 c1)) (.cons 1 (.p v3 c1) v0 O)) (.p v3 c1) (.p v1 v2) rfl h1 (sbE (lin [x1, x4, x3, x0] (.cons 1 (.p (.p v0 v1) c1) v2 (.cons 1 v2 v3 O)) c1 v3 rfl (And.left h0) h2)))
theorem a292 {x0 x1 x2 x3 x4 : Nat}  (h0 : ((x0 + x3) ≤ x4)) (h1 : (x1 ≤ x3)) (h2 : (x2 = x4)) : ((x0 + x1) ≤ x2) := (lin [x0, x3, x4, x1, x2] (.cons 1 (.p v0 v1) v2 (.cons 1 v3 v1 (.cons 1 v2 v4 O))) (.p v0 v3) v4 rfl h0 h1 (Nat.le_of_eq (Eq.symm h2)))
theorem a293 {x0 x1 x2 x3 x4 : Nat}  (h0 : (((x0 + x1) + x2) ≤ (x3 + x4))) (h1 : (1 < x1)) : (((x0 + (x1 - 1)) + (x2 + 1)) ≤ (x3 + x4)) := (lin [x0, x1, x2, x3, x4, (x1 - 1)] (.cons 1 (.p (.p v0 v1) v2) (.p v3 v4) (.cons 1 (.p v5 c1) v1 O)) (.p (.p v0 v5) (.p v2 c1)) (.p v3 v4) rfl h0 (sbE (lin [x1] (.cons 1 (.p c1 c1) v0 O) c1 v0 rfl h1)))
theorem a294 {x0 x1 x2 x3 x4 : Nat}  (h0 : (((x2 + x4) < x0) ∧ (x0 ≤ (x2 + x3)))) (h1 : (x0 ≤ x1)) (h2 : (x1 < (x2 + (x3 + 1)))) (h3 : (¬ (((x2 + x4) < x1) ∧ (x1 ≤ (x2 + x3))))) (h4 : (¬ (x1 = (x2 + x4)))) : False := (Or.elim (Decidable.not_and_iff_or_not.mp h3) (fun u1 => (linF [x2, x4, x0, x1] (.cons 1 (.p (.p v0 v1) c1) v2 (.cons 1 v2 v3 (.cons 1 v3 (.p v0 v1) O))) rfl (And.left h0) h1 (Nat.le_of_not_lt u1))) (fun u2 => (linF [x1, x2, x3] (.cons 1 (.p v0 c1) (.p v1 (.p v2 c1)) (.cons 1 (.p (.p v1 v2) c1) v0 O)) rfl h2 (Nat.lt_of_not_le u2))))
theorem a295 {x0 x1 x2 x3 : Nat}  (h0 : ((((x0 + x1) - (x2 + 1)) ≤ x3) ∧ (x3 < (x0 + x1)))) : (((x0 + x1) - (x2 + 1)) ≤ x3) := (lin [((x0 + x1) - (x2 + 1)), x3] (.cons 1 v0 v1 O) v0 v1 rfl (And.left h0))
theorem a296 {x0 x1 x2 x3 : Nat}  (h0 : ((((x1 + x2) - (x3 + 1)) ≤ x0) ∧ (x0 < (x1 + x2)))) : (x0 < (x1 + x2)) := (lin [x0, x1, x2] (.cons 1 (.p v0 c1) (.p v1 v2) O) (.p v0 c1) (.p v1 v2) rfl (And.right h0))
theorem a297 {x0 x1 x2 x3 x4 x5 x6 x7 x8 : Nat}  (h0 : ((((x4 + 1) + x2) + x3) ≤ (x5 + x6))) (h1 : (((x0 + x1) + 1) ≤ (x2 + x3))) (h2 : (((x7 + x8) + (max 0 (x5 + x6))) ≤ (x0 + x1))) : False := (linF [x4, x2, x3, x5, x6, x0, x1, (max 0 (x5 + x6)), x7, x8] (.cons 1 (.p (.p (.p v0 c1) v1) v2) (.p v3 v4) (.cons 1 (.p (.p v5 v6) c1) (.p v1 v2) (.cons 1 (.p v3 v4) v7 (.cons 1 (.p (.p v8 v9) v7) (.p v5 v6) O)))) rfl h0 h1 (Nat.le_max_right 0 (x5 + x6)) h2)
theorem a298 {x0 x1 x2 x3 : Nat}  (h0 : (x0 ≤ x3)) (h1 : (x3 = (x1 + x2))) (h2 : (¬ (x0 = (x1 + x2)))) : (x0 < (x1 + x2)) := (Or.elim (neqC h2) (fun u2 => (lin [x0, x1, x2] (.cons 1 (.p v0 c1) (.p v1 v2) O) (.p v0 c1) (.p v1 v2) rfl u2)) (fun u3 => (lin [x0, x3, x1, x2] (.cons 2 v0 v1 (.cons 2 v1 (.p v2 v3) (.cons 1 (.p (.p v2 v3) c1) v0 O))) (.p v0 c1) (.p v2 v3) rfl h0 (Nat.le_of_eq h1) u3)))
theorem a299 {x0 x1 x2 x3 : Nat}  (h0 : (1 ≤ x2)) (h1 : (x0 < x3)) (h2 : (x3 = (x1 + x2))) : ((x0 - x1) < x2) := (Or.elim (Nat.le_total x0 x1) (fun u2 => (lin [x2, (x0 - x1)] (.cons 1 c1 v0 (.cons 1 v1 c0 O)) (.p v1 c1) v0 rfl h0 (sbZ u2))) (fun u3 => (lin [x0, x3, x1, x2, (x0 - x1)] (.cons 1 (.p v0 c1) v1 (.cons 1 v1 (.p v2 v3) (.cons 1 (.p v4 v2) v0 O))) (.p v4 c1) v3 rfl h1 (Nat.le_of_eq h2) (sbE u3))))
theorem a300 {x0 x1 x2 x3 : Nat}  (h0 : ((((x0 + x1) - (x2 + 1)) ≤ x3) ∧ (x3 < (x0 + x1)))) : (((x0 + x1) - (x2 + 1)) ≤ (((((x0 + x1) - (x2 + 1)) + (x0 + x1)) - 1) - x3)) := (lin [x3, x0, x1, ((((x0 + x1) - (x2 + 1)) + (x0 + x1)) - 1), (((((x0 + x1) - (x2 + 1)) + (x0 + x1)) - 1) - x3), ((x0 + x1) - (x2 + 1))] (.cons 1 (.p v0 c1) (.p v1 v2) (.cons 1 v3 (.p v4 v0) (.cons 1 (.p v5 (.p v1 v2)) (.p v3 c1) O))) v5 v4 rfl (And.right h0) (sbU ((((x0 + x1) - (x2 + 1)) + (x0 + x1)) - 1) x3) (sbU (((x0 + x1) - (x2 + 1)) + (x0 + x1)) 1))
theorem a301 {x0 x1 x2 x3 x4 x5 x6 x7 x8 : Nat}  (h0 : ((((x0 + 1) + x5) + x6) ≤ (x3 + x4))) (h1 : (((x7 + x8) + 1) ≤ (x5 + x6))) (h2 : ((x1 + x2) ≤ (x7 + x8))) : (((((x0 + 1) + 1) + x1) + x2) ≤ (x3 + x4)) := (lin [x0, x5, x6, x3, x4, x7, x8, x1, x2] (.cons 1 (.p (.p (.p v0 c1) v1) v2) (.p v3 v4) (.cons 1 (.p (.p v5 v6) c1) (.p v1 v2) (.cons 1 (.p v7 v8) (.p v5 v6) O))) (.p (.p (.p (.p v0 c1) c1) v7) v8) (.p v3 v4) rfl h0 h1 h2)
theorem a302 {x0 x1 x2 x3 : Nat}  (h0 : ((((x0 + x1) - (x2 + 1)) ≤ x3) ∧ (x3 < (x0 + x1)))) : ((((((x0 + x1) - (x2 + 1)) + (x0 + x1)) - 1) - x3) < (x0 + x1)) := (lin [((x0 + x1) - (x2 + 1)), x3, (((((x0 + x1) - (x2 + 1)) + (x0 + x1)) - 1) - x3), ((((x0 + x1) - (x2 + 1)) + (x0 + x1)) - 1), x0, x1] (.cons 1 v0 v1 (.cons 1 (.p v2 v1) v3 (.cons 1 (.p v3 c1) (.p v0 (.p v4 v5)) O))) (.p v2 c1) (.p v4 v5) rfl (And.left h0) (sbE (lin [x3, x0, x1, ((x0 + x1) - (x2 + 1)), ((((x0 + x1) - (x2 + 1)) + (x0 + x1)) - 1)] (.cons 1 (.p v0 c1) (.p v1 v2) (.cons 1 (.p v3 (.p v1 v2)) (.p v4 c1) O)) v0 v4 rfl (And.right h0) (sbU (((x0 + x1) - (x2 + 1)) + (x0 + x1)) 1))) (sbE (lin [x3, x0, x1, ((x0 + x1) - (x2 + 1))] (.cons 1 (.p v0 c1) (.p v1 v2) O) c1 (.p v3 (.p v1 v2)) rfl (And.right h0))))
theorem a303 {x0 x1 x2 x3 x4 : Nat}  (h0 : (x0 ≤ x3)) (h1 : (x3 < (x1 + (x4 + 1)))) (h2 : (¬ (((x1 + x2) < x0) ∧ (x0 ≤ (x1 + x4))))) (h3 : (¬ (x0 = (x1 + x2)))) : (x0 < (x1 + x2)) := (Or.elim (Decidable.not_and_iff_or_not.mp h2) (fun u2 => (Or.elim (neqC h3) (fun u5 => (lin [x0, x1, x2] (.cons 1 (.p v0 c1) (.p v1 v2) O) (.p v0 c1) (.p v1 v2) rfl u5)) (fun u6 => (lin [x0, x1, x2] (.cons 2 v0 (.p v1 v2) (.cons 1 (.p (.p v1 v2) c1) v0 O)) (.p v0 c1) (.p v1 v2) rfl (Nat.le_of_not_lt u2) u6)))) (fun u3 => (False.elim (linF [x0, x3, x1, x4] (.cons 1 v0 v1 (.cons 1 (.p v1 c1) (.p v2 (.p v3 c1)) (.cons 1 (.p (.p v2 v3) c1) v0 O))) rfl h0 h1 (Nat.lt_of_not_le u3)))))
theorem a305 {x0 x1 x2 x3 x4 : Nat}  (h0 : (((x2 + x3) < x1) ∧ (x1 ≤ (x2 + x4)))) (h1 : (x0 ≤ x1)) (h2 : (¬ (((x2 + x3) < x0) ∧ (x0 ≤ (x2 + x4))))) (h3 : (¬ (x0 = (x2 + x3)))) : (x0 ≤ (x1 - 1)) := (Or.elim (Decidable.not_and_iff_or_not.mp h2) (fun u2 => (lin [x2, x3, x1, (x1 - 1), x0] (.cons 1 (.p (.p v0 v1) c1) v2 (.cons 1 v2 (.p v3 c1) (.cons 1 v4 (.p v0 v1) O))) v4 v3 rfl (And.left h0) (sbU x1 1) (Nat.le_of_not_lt u2))) (fun u3 => (lin [x1, x2, x4, x0, (x1 - 1)] (.cons 1 v0 (.p v1 v2) (.cons 2 v3 v0 (.cons 1 v0 (.p v4 c1) (.cons 1 (.p (.p v1 v2) c1) v3 O)))) v3 v4 rfl (And.right h0) h1 (sbU x1 1) (Nat.lt_of_not_le u3))))
theorem a306 {x0 x1 : Nat}  (h0 : (x0 ≤ x1)) : ((0 + x0) ≤ x1) := (lin [x0, x1] (.cons 1 v0 v1 O) (.p c0 v0) v1 rfl h0)
theorem a307 {x0 x1 x2 x3 : Nat}  (h0 : (((x1 + x3) < x0) ∧ (x0 ≤ (x1 + x2)))) : ((x0 - 1) < (x1 + x2)) := (lin [x0, x1, x2, (x0 - 1)] (.cons 1 v0 (.p v1 v2) (.cons 1 (.p v3 c1) v0 O)) (.p v3 c1) (.p v1 v2) rfl (And.right h0) (sbE (lin [x1, x3, x0] (.cons 1 (.p (.p v0 v1) c1) v2 O) c1 v2 rfl (And.left h0))))
theorem a308 {x0 x1 x2 x3 : Int} (h0 : (x1 ≤ x3)) (h1 : (x3 = x2)) (h2 : (¬ (x1 < (x0 + (1 : Int))))) : (((x0 + (1 : Int)) ≤ x1) ∧ (x1 ≤ x2)) := (And.intro (Int.add_one_le_of_lt (Int.lt_of_add_one_le (Int.not_lt.mp h2))) (Int.le_trans h0 (Int.le_of_eq h1)))
theorem a309 {x0 : Nat}  (h0 : (0 < x0)) : ((x0 - 1) < x0) := (lin [(x0 - 1), x0] (.cons 1 (.p v0 c1) v1 O) (.p v0 c1) v1 rfl (sbE (lin [x0] (.cons 1 (.p c0 c1) v0 O) c1 v0 rfl h0)))
theorem a311 {x0 x1 x2 x3 x4 : Nat}  (h0 : (x0 ≤ x3)) (h1 : (x3 < (x1 + (x4 + 1)))) (h2 : (¬ (((x1 + x2) < x3) ∧ (x3 ≤ (x1 + x4))))) (h3 : (¬ (x0 = (x1 + x2)))) (h4 : (¬ (x3 = (x1 + x2)))) : (x0 < (x1 + x2)) := (Or.elim (Decidable.not_and_iff_or_not.mp h2) (fun u2 => (Or.elim (neqC h3) (fun u5 => (lin [x0, x1, x2] (.cons 1 (.p v0 c1) (.p v1 v2) O) (.p v0 c1) (.p v1 v2) rfl u5)) (fun u6 => (lin [x0, x3, x1, x2] (.cons 2 v0 v1 (.cons 2 v1 (.p v2 v3) (.cons 1 (.p (.p v2 v3) c1) v0 O))) (.p v0 c1) (.p v2 v3) rfl h0 (Nat.le_of_not_lt u2) u6)))) (fun u3 => (False.elim (linF [x3, x1, x4] (.cons 1 (.p v0 c1) (.p v1 (.p v2 c1)) (.cons 1 (.p (.p v1 v2) c1) v0 O)) rfl h1 (Nat.lt_of_not_le u3)))))
theorem a312 {x0 x1 x2 : Nat}  (h0 : (x0 < (x1 + x2))) (h1 : (¬ ((x2 == 0) = true))) : ((x0 - x1) < x2) := (Or.elim (neqC (fun q => h1 (beq_iff_eq.mpr q))) (fun u2 => (lin [x2, (x0 - x1)] (.cons 1 (.p v0 c1) c0 (.cons 1 v1 c0 O)) (.p v1 c1) v0 rfl u2 (sbZ (lin [x0, x1, x2] (.cons 1 (.p v0 c1) (.p v1 v2) (.cons 1 (.p v2 c1) c0 O)) v0 v1 rfl h0 u2)))) (fun u3 => (Or.elim (Nat.le_total x0 x1) (fun u5 => (lin [x2, (x0 - x1)] (.cons 1 (.p c0 c1) v0 (.cons 1 v1 c0 O)) (.p v1 c1) v0 rfl u3 (sbZ u5))) (fun u6 => (lin [x0, x1, x2, (x0 - x1)] (.cons 1 (.p v0 c1) (.p v1 v2) (.cons 1 (.p v3 v1) v0 O)) (.p v3 c1) v2 rfl h0 (sbE u6))))))
theorem a313 {x0 x1 : Int} (h0 : (¬ (x0 < x1))) (h1 : (¬ (x1 < x0))) : (x0 = x1) := (Int.le_antisymm (Int.not_lt.mp h1) (Int.not_lt.mp h0))
theorem a314 {x0 : Nat}  (h0 : (¬ (x0 > 0))) : (x0 = 0) := (Nat.le_antisymm (lin [x0] (.cons 1 v0 c0 O) v0 c0 rfl (Nat.le_of_not_lt h0)) (lin [x0] O c0 v0 rfl ))
theorem a315 {x0 x1 x2 x3 : Nat}  (h0 : (x0 < (x1 + (x2 + 1)))) (h1 : (x3 ≤ x2)) (h2 : (¬ (((x1 + x3) < x0) ∧ (x0 ≤ (x1 + x2))))) (h3 : (¬ (x0 = (x1 + x3)))) : (x0 < (x1 + x2)) := (Or.elim (Decidable.not_and_iff_or_not.mp h2) (fun u2 => (Or.elim (neqC h3) (fun u5 => (lin [x3, x2, x0, x1] (.cons 1 v0 v1 (.cons 1 (.p v2 c1) (.p v3 v0) O)) (.p v2 c1) (.p v3 v1) rfl h1 u5)) (fun u6 => (lin [x0, x1, x2, x3] (.cons 1 (.p v0 c1) (.p v1 (.p v2 c1)) (.cons 1 v0 (.p v1 v3) (.cons 1 (.p (.p v1 v3) c1) v0 O))) (.p v0 c1) (.p v1 v2) rfl h0 (Nat.le_of_not_lt u2) u6)))) (fun u3 => (lin [x0, x1, x2] (.cons 2 (.p v0 c1) (.p v1 (.p v2 c1)) (.cons 1 (.p (.p v1 v2) c1) v0 O)) (.p v0 c1) (.p v1 v2) rfl h0 (Nat.lt_of_not_le u3))))
theorem a316 {x0 x1 : Nat}  (h0 : ((x0 + 1) ≤ x1)) : (((x0 + 1) + 1) ≤ (x1 + 1)) := (lin [x0, x1] (.cons 1 (.p v0 c1) v1 O) (.p (.p v0 c1) c1) (.p v1 c1) rfl h0)
theorem a317 {x0 x1 x2 x3 : Int} (h0 : (x1 < x2)) (h1 : (x3 = x0)) (h2 : (x3 ≤ x1)) : ((x0 ≤ x1) ∧ (x1 < x2)) := (And.intro (Int.le_trans (Int.le_of_eq (Eq.symm h1)) h2) h0)
theorem a318 {x0 : Nat}  (h0 : (x0 < 1)) : (x0 = 0) := (Nat.le_antisymm (lin [x0] (.cons 1 (.p v0 c1) c1 O) v0 c0 rfl h0) (lin [x0] O c0 v0 rfl ))
theorem a319 {x0 x1 x2 : Int} (h0 : (x0 ≤ x2)) (h1 : (¬ (x1 < (x2 + (1 : Int))))) : (x0 ≤ x1) := (Int.le_of_lt (Int.lt_of_le_of_lt h0 (Int.lt_of_add_one_le (Int.not_lt.mp h1))))
theorem a320 {x0 : Nat}   : ((x0 - 1) ≤ x0) := (lin [(x0 - 1), x0] (.cons 1 v0 v1 O) v0 v1 rfl (Nat.sub_le x0 1))
theorem a321 {x0 x1 : Int} (h0 : (x0 < (x1 + (1 : Int)))) : (x0 ≤ x1) := (Int.le_of_lt_add_one h0)
theorem a323 {x0 x1 : Nat}   : (((x0 + (x1 + 1)) - 1) = (x0 + x1)) := (Nat.le_antisymm (lin [((x0 + (x1 + 1)) - 1), x0, x1] (.cons 1 (.p v0 c1) (.p v1 (.p v2 c1)) O) v0 (.p v1 v2) rfl (sbE (lin [x0, x1] O c1 (.p v0 (.p v1 c1)) rfl ))) (lin [x0, x1, ((x0 + (x1 + 1)) - 1)] (.cons 1 (.p v0 (.p v1 c1)) (.p v2 c1) O) (.p v0 v1) v2 rfl (sbU (x0 + (x1 + 1)) 1)))
theorem a324 {x0 x1 : Nat}  (h0 : (x0 ≤ x1)) : (x0 ≤ (x1 + 1)) := (lin [x0, x1] (.cons 1 v0 v1 O) v0 (.p v1 c1) rfl h0)
theorem a325 {x0 x1 : Nat}  (h0 : (x0 ≤ x1)) : (x0 < (x1 + 1)) := (lin [x0, x1] (.cons 1 v0 v1 O) (.p v0 c1) (.p v1 c1) rfl h0)
theorem a326 {x0 x1 x2 x3 : Nat}  (h0 : (((x0 + (x1 + 1)) - ((x2 + 1) + 1)) ≤ x3)) : (((x0 + x1) - (x2 + 1)) ≤ x3) := (Or.elim (Nat.le_total (x0 + (x1 + 1)) ((x2 + 1) + 1)) (fun u2 => (lin [((x0 + x1) - (x2 + 1)), x3] (.cons 1 v0 c0 O) v0 v1 rfl (sbZ (lin [x0, x1, x2] (.cons 1 (.p v0 (.p v1 c1)) (.p (.p v2 c1) c1) O) (.p v0 v1) (.p v2 c1) rfl u2)))) (fun u3 => (lin [x0, x1, ((x0 + (x1 + 1)) - ((x2 + 1) + 1)), x2, x3, ((x0 + x1) - (x2 + 1))] (.cons 1 (.p v0 (.p v1 c1)) (.p v2 (.p (.p v3 c1) c1)) (.cons 1 v2 v4 (.cons 1 (.p v5 (.p v3 c1)) (.p v0 v1) O))) v5 v4 rfl (sbU (x0 + (x1 + 1)) ((x2 + 1) + 1)) h0 (sbE (lin [((x0 + (x1 + 1)) - ((x2 + 1) + 1)), x2, x0, x1] (.cons 1 (.p v0 (.p (.p v1 c1) c1)) (.p v2 (.p v3 c1)) O) (.p v1 c1) (.p v2 v3) rfl (sbE u3))))))
theorem a327 {x0 x1 : Nat}  (h0 : (x0 < x1)) : (x0 < (x1 + 1)) := (lin [x0, x1] (.cons 1 (.p v0 c1) v1 O) (.p v0 c1) (.p v1 c1) rfl h0)
theorem a329 {x0 x1 x2 : Nat}  (h0 : (x0 = (max (x2 + 1) x1))) (h1 : (x2 ≤ x1)) (h2 : (¬ ((x2 == x1) = true))) : (x0 = x1) := (Or.elim (neqC (fun q => h2 (beq_iff_eq.mpr q))) (fun u1 => (Nat.le_antisymm (lin [x0, (max (x2 + 1) x1), x1] (.cons 1 v0 v1 (.cons 1 v1 v2 O)) v0 v2 rfl (Nat.le_of_eq h0) (maxB (lin [x2, x1] (.cons 1 (.p v0 c1) v1 O) (.p v0 c1) v1 rfl u1))) (lin [x1, (max (x2 + 1) x1), x0] (.cons 1 v0 v1 (.cons 1 v1 v2 O)) v0 v2 rfl (Nat.le_max_right (x2 + 1) x1) (Nat.le_of_eq (Eq.symm h0))))) (fun u2 => (Nat.le_antisymm (lin [x0, (max (x2 + 1) x1), x1] (.cons 1 v0 v1 (.cons 1 v1 v2 O)) v0 v2 rfl (Nat.le_of_eq h0) (maxB (lin [x2, x1] (.cons 2 v0 v1 (.cons 1 (.p v1 c1) v0 O)) (.p v0 c1) v1 rfl h1 u2))) (lin [x1, (max (x2 + 1) x1), x0] (.cons 1 v0 v1 (.cons 1 v1 v2 O)) v0 v2 rfl (Nat.le_max_right (x2 + 1) x1) (Nat.le_of_eq (Eq.symm h0))))))
theorem a330   : (0 ≤ 0) := (lin [] O c0 c0 rfl )
theorem a331 {x0 x1 : Nat}  (h0 : ((max 0 x1) ≤ x0)) (h1 : (x0 ≤ x1)) : (x0 = x1) := (Nat.le_antisymm (lin [x0, x1] (.cons 1 v0 v1 O) v0 v1 rfl h1) (lin [x1, (max 0 x1), x0] (.cons 1 v0 v1 (.cons 1 v1 v2 O)) v0 v2 rfl (Nat.le_max_right 0 x1) h0))
theorem a332 {x0 x1 x2 : Nat}  (h0 : (x0 ≤ x2)) (h1 : (x1 = x2)) (h2 : (¬ ((x0 == x2) = true))) : ((x0 + 1) ≤ x1) := (Or.elim (neqC (fun q => h2 (beq_iff_eq.mpr q))) (fun u2 => (lin [x2, x1, x0] (.cons 1 v0 v1 (.cons 1 (.p v2 c1) v0 O)) (.p v2 c1) v1 rfl (Nat.le_of_eq (Eq.symm h1)) u2)) (fun u3 => (lin [x0, x2, x1] (.cons 2 v0 v1 (.cons 1 v1 v2 (.cons 1 (.p v1 c1) v0 O))) (.p v0 c1) v2 rfl h0 (Nat.le_of_eq (Eq.symm h1)) u3)))
theorem a334 {x0 x1 : Nat}  (h0 : (((x0 : Nat) : Int) ≤ ((x1 : Nat) : Int))) (h1 : (x1 < x0)) : False := (linF [x0, x1] (.cons 1 v0 v1 (.cons 1 (.p v1 c1) v0 O)) rfl (Int.ofNat_le.mp h0) h1)
theorem a335 {x0 x1 : Nat}  (h0 : (¬ (x0 ≥ x1))) : ((x0 + (x1 - x0)) ≤ x1) := (lin [(x1 - x0), x0, x1] (.cons 1 (.p v0 v1) v2 O) (.p v1 v0) v2 rfl (sbE (lin [x0, x1] (.cons 1 (.p v0 c1) v1 O) v0 v1 rfl (Nat.lt_of_not_le h0))))
theorem a336 {x0 x1 : Nat}  (h0 : (¬ (x1 ≥ x0))) : (1 ≤ (x0 - x1)) := (lin [x1, x0, (x0 - x1)] (.cons 1 (.p v0 c1) v1 (.cons 1 v1 (.p v2 v0) O)) c1 v2 rfl (Nat.lt_of_not_le h0) (sbU x0 x1))
theorem a338 {x0 x1 x2 x3 : Nat}  (h0 : (1 ≤ x3)) (h1 : (x3 ≤ (x1 - x0))) : ((x0 + (min (x1 - x0) x2)) ≤ x1) := (Or.elim (Nat.le_total x1 x0) (fun u2 => (False.elim (linF [x3, (x1 - x0)] (.cons 1 c1 v0 (.cons 1 v0 v1 (.cons 1 v1 c0 O))) rfl h0 h1 (sbZ u2)))) (fun u3 => (lin [(min (x1 - x0) x2), (x1 - x0), x0, x1] (.cons 1 v0 v1 (.cons 1 (.p v1 v2) v3 O)) (.p v2 v0) v3 rfl (Nat.min_le_left (x1 - x0) x2) (sbE u3))))
theorem a339 {x0 x1 x2 x3 : Nat}  (h0 : (x0 < x3)) (h1 : (x0 ≤ (x1 - x2))) : (x0 ≤ (min (x1 - x2) x3)) := (Or.elim (Nat.le_total x1 x2) (fun u2 => (lin [x0, (x1 - x2), (min (x1 - x2) x3)] (.cons 1 v0 v1 (.cons 1 v1 v2 O)) v0 v2 rfl h1 (minA (lin [(x1 - x2), x3] (.cons 1 v0 c0 O) v0 v1 rfl (sbZ u2))))) (fun u3 => (Or.elim (Nat.le_total (x1 - x2) x3) (fun u5 => (lin [x0, (x1 - x2), (min (x1 - x2) x3)] (.cons 1 v0 v1 (.cons 1 v1 v2 O)) v0 v2 rfl h1 (minA u5))) (fun u6 => (lin [x0, x3, (min (x1 - x2) x3)] (.cons 1 (.p v0 c1) v1 (.cons 1 v1 v2 O)) v0 v2 rfl h0 (minB u6))))))
theorem a340 {x0 x1 x2 x3 x4 x5 : Nat}  (h0 : (((x2 - 1) + x3) < x2)) (h1 : (x2 = (x5 - x1))) (h2 : (x4 = (x0 + x5))) (h3 : (¬ (((x5 - x1) == 0) = true))) : (((x0 + x1) + ((x2 - 1) + x3)) = (x4 - 1)) := (Or.elim (neqC (fun q => h3 (beq_iff_eq.mpr q))) (fun u1 => (Nat.le_antisymm (False.elim (linF [(x5 - x1)] (.cons 1 (.p v0 c1) c0 O) rfl u1)) (lin [x5, (x5 - x1), x1, x4, x0, (x4 - 1), (x2 - 1), x3] (.cons 1 v0 (.p v1 v2) (.cons 1 v3 (.p v4 v0) (.cons 1 v1 c0 (.cons 1 (.p v5 c1) v3 O)))) v5 (.p (.p v4 v2) (.p v6 v7)) rfl (sbU x5 x1) (Nat.le_of_eq h2) (sbZ (lin [x5, (x5 - x1), x1] (.cons 1 v0 (.p v1 v2) (.cons 1 (.p v1 c1) c0 O)) v0 v2 rfl (sbU x5 x1) u1)) (sbE (lin [(x5 - x1), x4] (.cons 1 (.p v0 c1) c0 O) c1 v1 rfl u1))))) (fun u2 => (Or.elim (Nat.le_total x2 1) (fun u3 => (Or.elim (Nat.le_total x5 x1) (fun u5 => (Nat.le_antisymm (False.elim (linF [(x5 - x1)] (.cons 1 (.p c0 c1) v0 (.cons 1 v0 c0 O)) rfl u2 (sbZ u5))) (lin [x4, x0, x5, x1, (x4 - 1), (x2 - 1), x3] (.cons 1 v0 (.p v1 v2) (.cons 1 v2 v3 (.cons 1 (.p v4 c1) v0 O))) v4 (.p (.p v1 v3) (.p v5 v6)) rfl (Nat.le_of_eq h2) u5 (sbE (lin [(x5 - x1), x4] (.cons 1 (.p c0 c1) v0 (.cons 1 v0 c0 O)) c1 v1 rfl u2 (sbZ u5)))))) (fun u6 => (Or.elim (Nat.le_total x4 1) (fun u7 => (Nat.le_antisymm (Nat.le_of_not_lt fun u9 => (linF [(x2 - 1), x3, x2, (x5 - x1), x0, x5, x4, (x4 - 1), x1] (.cons 1 (.p (.p v0 v1) c1) v2 (.cons 1 v2 v3 (.cons 1 (.p v4 v5) v6 (.cons 1 v6 (.p v7 c1) (.cons 1 (.p v3 v8) v5 (.cons 1 (.p v7 c1) (.p (.p v4 v8) (.p v0 v1)) O)))))) rfl h0 (Nat.le_of_eq h1) (Nat.le_of_eq (Eq.symm h2)) (sbU x4 1) (sbE u6) u9)) (lin [(x4 - 1), x0, x1, (x2 - 1), x3] (.cons 1 v0 c0 O) v0 (.p (.p v1 v2) (.p v3 v4)) rfl (sbZ u7)))) (fun u8 => (Nat.le_antisymm (Nat.le_of_not_lt fun u10 => (linF [(x2 - 1), x3, x2, (x5 - x1), x0, x5, x4, (x4 - 1), x1] (.cons 1 (.p (.p v0 v1) c1) v2 (.cons 1 v2 v3 (.cons 1 (.p v4 v5) v6 (.cons 1 v6 (.p v7 c1) (.cons 1 (.p v3 v8) v5 (.cons 1 (.p v7 c1) (.p (.p v4 v8) (.p v0 v1)) O)))))) rfl h0 (Nat.le_of_eq h1) (Nat.le_of_eq (Eq.symm h2)) (sbU x4 1) (sbE u6) u10)) (Nat.le_of_not_lt fun u11 => (linF [x2, (x2 - 1), x5, (x5 - x1), x1, x4, x0, (x4 - 1), x3] (.cons 1 v0 (.p v1 c1) (.cons 1 v2 (.p v3 v4) (.cons 1 v3 v0 (.cons 1 v5 (.p v6 v2) (.cons 1 (.p v7 c1) v5 (.cons 1 (.p (.p (.p v6 v4) (.p v1 v8)) c1) v7 O)))))) rfl (sbU x2 1) (sbU x5 x1) (Nat.le_of_eq (Eq.symm h1)) (Nat.le_of_eq h2) (sbE u8) u11)))))))) (fun u4 => (Or.elim (Nat.le_total x5 x1) (fun u12 => (Nat.le_antisymm (False.elim (linF [(x5 - x1)] (.cons 1 (.p c0 c1) v0 (.cons 1 v0 c0 O)) rfl u2 (sbZ u12))) (lin [x4, x0, x5, x1, (x4 - 1), (x2 - 1), x3] (.cons 1 v0 (.p v1 v2) (.cons 1 v2 v3 (.cons 1 (.p v4 c1) v0 O))) v4 (.p (.p v1 v3) (.p v5 v6)) rfl (Nat.le_of_eq h2) u12 (sbE (lin [(x5 - x1), x4] (.cons 1 (.p c0 c1) v0 (.cons 1 v0 c0 O)) c1 v1 rfl u2 (sbZ u12)))))) (fun u13 => (Or.elim (Nat.le_total x4 1) (fun u14 => (Nat.le_antisymm (Nat.le_of_not_lt fun u16 => (linF [(x2 - 1), x3, x2, (x5 - x1), x0, x5, x4, (x4 - 1), x1] (.cons 1 (.p (.p v0 v1) c1) v2 (.cons 1 v2 v3 (.cons 1 (.p v4 v5) v6 (.cons 1 v6 (.p v7 c1) (.cons 1 (.p v3 v8) v5 (.cons 1 (.p v7 c1) (.p (.p v4 v8) (.p v0 v1)) O)))))) rfl h0 (Nat.le_of_eq h1) (Nat.le_of_eq (Eq.symm h2)) (sbU x4 1) (sbE u13) u16)) (lin [(x4 - 1), x0, x1, (x2 - 1), x3] (.cons 1 v0 c0 O) v0 (.p (.p v1 v2) (.p v3 v4)) rfl (sbZ u14)))) (fun u15 => (Nat.le_antisymm (Nat.le_of_not_lt fun u17 => (linF [(x2 - 1), x3, x2, (x5 - x1), x0, x5, x4, (x4 - 1), x1] (.cons 1 (.p (.p v0 v1) c1) v2 (.cons 1 v2 v3 (.cons 1 (.p v4 v5) v6 (.cons 1 v6 (.p v7 c1) (.cons 1 (.p v3 v8) v5 (.cons 1 (.p v7 c1) (.p (.p v4 v8) (.p v0 v1)) O)))))) rfl h0 (Nat.le_of_eq h1) (Nat.le_of_eq (Eq.symm h2)) (sbU x4 1) (sbE u13) u17)) (Nat.le_of_not_lt fun u18 => (linF [x2, (x2 - 1), x5, (x5 - x1), x1, x4, x0, (x4 - 1), x3] (.cons 1 v0 (.p v1 c1) (.cons 1 v2 (.p v3 v4) (.cons 1 v3 v0 (.cons 1 v5 (.p v6 v2) (.cons 1 (.p v7 c1) v5 (.cons 1 (.p (.p (.p v6 v4) (.p v1 v8)) c1) v7 O)))))) rfl (sbU x2 1) (sbU x5 x1) (Nat.le_of_eq (Eq.symm h1)) (Nat.le_of_eq h2) (sbE u15) u18)))))))))))
theorem a341 {x0 x1 x2 x3 x4 : Nat}  (h0 : ((min (x3 - x4) x2) = x0)) (h1 : (1 ≤ x1)) (h2 : (x1 < x2)) (h3 : (x1 ≤ (x3 - x4))) : (1 ≤ x0) := (Or.elim (Nat.le_total (x3 - x4) x2) (fun u2 => (lin [(min (x3 - x4) x2), x0, x1, (x3 - x4)] (.cons 1 v0 v1 (.cons 1 c1 v2 (.cons 1 v2 v3 (.cons 1 v3 v0 O)))) c1 v1 rfl (Nat.le_of_eq h0) h1 h3 (minA u2))) (fun u3 => (lin [(min (x3 - x4) x2), x0, x1, x2] (.cons 1 v0 v1 (.cons 1 (.p v2 c1) v3 (.cons 1 v3 v0 O))) c1 v1 rfl (Nat.le_of_eq h0) h2 (minB u3))))
theorem a342 {x0 x1 x2 x3 x4 : Nat}  (h0 : ((min (x2 - x0) x3) = x1)) (h1 : (1 ≤ x4)) (h2 : (x4 ≤ (x2 - x0))) : ((x0 + x1) ≤ x2) := (Or.elim (Nat.le_total (x2 - x0) x3) (fun u2 => (Or.elim (Nat.le_total x2 x0) (fun u5 => (False.elim (linF [x4, (x2 - x0)] (.cons 1 c1 v0 (.cons 1 v0 v1 (.cons 1 v1 c0 O))) rfl h1 h2 (sbZ u5)))) (fun u6 => (lin [(min (x2 - x0) x3), (x2 - x0), x1, x0, x2] (.cons 1 v0 v1 (.cons 1 v2 v0 (.cons 1 (.p v1 v3) v4 O))) (.p v3 v2) v4 rfl (Nat.min_le_left (x2 - x0) x3) (Nat.le_of_eq (Eq.symm h0)) (sbE u6))))) (fun u3 => (Or.elim (Nat.le_total x2 x0) (fun u8 => (False.elim (linF [x4, (x2 - x0)] (.cons 1 c1 v0 (.cons 1 v0 v1 (.cons 1 v1 c0 O))) rfl h1 h2 (sbZ u8)))) (fun u9 => (lin [(min (x2 - x0) x3), (x2 - x0), x1, x0, x2] (.cons 1 v0 v1 (.cons 1 v2 v0 (.cons 1 (.p v1 v3) v4 O))) (.p v3 v2) v4 rfl (Nat.min_le_left (x2 - x0) x3) (Nat.le_of_eq (Eq.symm h0)) (sbE u9))))))
theorem a344 {x0 x1 x2 : Nat}  (h0 : (0 < x0)) (h1 : (x0 ≤ x2)) (h2 : (x2 ≤ x1)) : ((x0 - 1) < x1) := (lin [x0, x2, x1, (x0 - 1)] (.cons 1 v0 v1 (.cons 1 v1 v2 (.cons 1 (.p v3 c1) v0 O))) (.p v3 c1) v2 rfl h1 h2 (sbE (lin [x0] (.cons 1 (.p c0 c1) v0 O) c1 v0 rfl h0)))
theorem a346 {x0 x1 x2 x3 : Nat}  (h0 : (x0 ≤ x3)) (h1 : (x1 = (x2 + x3))) (h2 : (¬ (((x3 - x0) == 0) = true))) : (x0 ≤ ((x1 - 1) - x2)) := (Or.elim (neqC (fun q => h2 (beq_iff_eq.mpr q))) (fun u2 => (lin [x2, x3, x1, (x1 - 1), ((x1 - 1) - x2), (x3 - x0), x0] (.cons 1 (.p v0 v1) v2 (.cons 1 v3 (.p v4 v0) (.cons 1 v2 (.p v3 c1) (.cons 1 (.p v5 v6) v1 (.cons 1 (.p v5 c1) c0 O))))) v6 v4 rfl (Nat.le_of_eq (Eq.symm h1)) (sbU (x1 - 1) x2) (sbU x1 1) (sbE (lin [x0, x3] (.cons 1 v0 v1 O) v0 v1 rfl h0)) u2)) (fun u3 => (lin [x2, x3, x1, (x1 - 1), ((x1 - 1) - x2), (x3 - x0), x0] (.cons 1 (.p v0 v1) v2 (.cons 1 v3 (.p v4 v0) (.cons 1 v2 (.p v3 c1) (.cons 1 (.p v5 v6) v1 (.cons 1 (.p c0 c1) v5 O))))) v6 v4 rfl (Nat.le_of_eq (Eq.symm h1)) (sbU (x1 - 1) x2) (sbU x1 1) (sbE (lin [x0, x3] (.cons 1 v0 v1 O) v0 v1 rfl h0)) u3)))
theorem a347 {x0 x1 x2 : Nat}  (h0 : (1 ≤ x2)) (h1 : (x0 ≤ x1)) : ((x0 + 1) ≤ (x1 + x2)) := (lin [x2, x0, x1] (.cons 1 c1 v0 (.cons 1 v1 v2 O)) (.p v1 c1) (.p v2 v0) rfl h0 h1)
theorem a348 {x0 : Nat}  (h0 : (x0 > 1)) : ((x0 - 2) < x0) := (lin [(x0 - 2), x0] (.cons 1 (.p v0 c2) v1 O) (.p v0 c1) v1 rfl (sbE (lin [x0] (.cons 1 (.p c1 c1) v0 O) c2 v0 rfl h0)))
theorem a349 {x0 x1 x2 : Nat}  (h0 : (1 ≤ x2)) (h1 : (x0 = (x1 + x2))) : (((x0 - 1) - x1) < x2) := (lin [x0, x1, x2, ((x0 - 1) - x1), (x0 - 1)] (.cons 1 v0 (.p v1 v2) (.cons 1 (.p v3 v1) v4 (.cons 1 (.p v4 c1) v0 O))) (.p v3 c1) v2 rfl (Nat.le_of_eq h1) (sbE (lin [x2, x1, x0, (x0 - 1)] (.cons 1 c1 v0 (.cons 1 (.p v1 v0) v2 (.cons 1 v2 (.p v3 c1) O))) v1 v3 rfl h0 (Nat.le_of_eq (Eq.symm h1)) (sbU x0 1))) (sbE (lin [x2, x1, x0] (.cons 1 c1 v0 (.cons 1 (.p v1 v0) v2 O)) c1 v2 rfl h0 (Nat.le_of_eq (Eq.symm h1)))))
theorem a350 {x0 x1 : Nat}  (h0 : (¬ (x0 ≥ x1))) : (x0 ≤ x1) := (lin [x0, x1] (.cons 1 (.p v0 c1) v1 O) v0 v1 rfl (Nat.lt_of_not_le h0))
theorem a351 {x0 x1 x2 x3 : Nat}  (h0 : (x0 ≤ x1)) (h1 : (x1 ≤ x3)) (h2 : (x3 < (x0 + x2))) : ((x0 ≤ x1) ∧ (x1 < (x0 + x2))) := (And.intro (lin [x0, x1] (.cons 1 v0 v1 O) v0 v1 rfl h0) (lin [x1, x3, x0, x2] (.cons 1 v0 v1 (.cons 1 (.p v1 c1) (.p v2 v3) O)) (.p v0 c1) (.p v2 v3) rfl h1 h2))
theorem a352 {x0 : Nat}  (h0 : (x0 > 1)) : (((x0 - 2) + 1) < x0) := (lin [(x0 - 2), x0] (.cons 1 (.p v0 c2) v1 O) (.p (.p v0 c1) c1) v1 rfl (sbE (lin [x0] (.cons 1 (.p c1 c1) v0 O) c2 v0 rfl h0)))
theorem a353 {x0 x1 : Nat}  (h0 : (1 < x0)) (h1 : (x0 ≤ x1)) : ((0 + (x0 - 1)) ≤ x1) := (lin [x0, x1, (x0 - 1)] (.cons 1 v0 v1 (.cons 1 (.p v2 c1) v0 O)) (.p c0 v2) v1 rfl h1 (sbE (lin [x0] (.cons 1 (.p c1 c1) v0 O) c1 v0 rfl h0)))
theorem a354 {x0 x1 x2 x3 : Nat}  (h0 : (x0 ≤ x3)) (h1 : (x1 < (x0 + x2))) (h2 : (x3 ≤ x1)) : ((x0 ≤ x1) ∧ (x1 < (x0 + x2))) := (And.intro (lin [x0, x3, x1] (.cons 1 v0 v1 (.cons 1 v1 v2 O)) v0 v2 rfl h0 h2) (lin [x1, x0, x2] (.cons 1 (.p v0 c1) (.p v1 v2) O) (.p v0 c1) (.p v1 v2) rfl h1))
theorem a355 {x0 x1 x2 : Nat}  (h0 : (1 ≤ x2)) (h1 : (x1 = (x0 + x2))) : ((x0 + ((x1 - 1) - x0)) = (x1 - 1)) := (Nat.le_antisymm (lin [((x1 - 1) - x0), x0, (x1 - 1)] (.cons 1 (.p v0 v1) v2 O) (.p v1 v0) v2 rfl (sbE (lin [x2, x0, x1, (x1 - 1)] (.cons 1 c1 v0 (.cons 1 (.p v1 v0) v2 (.cons 1 v2 (.p v3 c1) O))) v1 v3 rfl h0 (Nat.le_of_eq (Eq.symm h1)) (sbU x1 1)))) (lin [(x1 - 1), ((x1 - 1) - x0), x0] (.cons 1 v0 (.p v1 v2) O) v0 (.p v2 v1) rfl (sbU (x1 - 1) x0)))
theorem a356 {x0 x1 x2 : Nat}  (h0 : (1 ≤ x1)) (h1 : (x1 ≤ (x2 - x0))) : ((x0 + x1) ≤ x2) := (Or.elim (Nat.le_total x2 x0) (fun u2 => (False.elim (linF [x1, (x2 - x0)] (.cons 1 c1 v0 (.cons 1 v0 v1 (.cons 1 v1 c0 O))) rfl h0 h1 (sbZ u2)))) (fun u3 => (lin [x1, (x2 - x0), x0, x2] (.cons 1 v0 v1 (.cons 1 (.p v1 v2) v3 O)) (.p v2 v0) v3 rfl h1 (sbE u3))))
theorem a357 {x0 x1 x2 : Nat}  (h0 : (x2 < (x0 + x1))) : (x0 ≤ (((x0 + (x0 + x1)) - 1) - x2)) := (lin [x2, x0, x1, ((x0 + (x0 + x1)) - 1), (((x0 + (x0 + x1)) - 1) - x2)] (.cons 1 (.p v0 c1) (.p v1 v2) (.cons 1 v3 (.p v4 v0) (.cons 1 (.p v1 (.p v1 v2)) (.p v3 c1) O))) v1 v4 rfl h0 (sbU ((x0 + (x0 + x1)) - 1) x2) (sbU (x0 + (x0 + x1)) 1))
theorem a358 {x0 x1 x2 : Int} (h0 : (x2 = x1)) (h1 : (¬ (x2 < (x0 + (1 : Int))))) : ((x0 + (1 : Int)) ≤ x1) := (Int.add_one_le_of_lt (Int.lt_of_lt_of_le (Int.lt_of_add_one_le (Int.not_lt.mp h1)) (Int.le_of_eq h0)))
theorem a359 {x0 : Nat}  (h0 : (1 < x0)) : (((x0 - 1) - 1) < (x0 - 1)) := (lin [((x0 - 1) - 1), (x0 - 1)] (.cons 1 (.p v0 c1) v1 O) (.p v0 c1) v1 rfl (sbE (lin [x0, (x0 - 1)] (.cons 1 (.p c1 c1) v0 (.cons 1 v0 (.p v1 c1) O)) c1 v1 rfl h0 (sbU x0 1))))
theorem a360 {x0 x1 x2 x3 : Nat}  (h0 : (x2 < (x0 + x1))) (h1 : (x3 ≤ x2)) : ((((x0 + (x0 + x1)) - 1) - x2) ≤ (((x0 + (x0 + x1)) - 1) - x3)) := (lin [x3, x2, ((x0 + (x0 + x1)) - 1), (((x0 + (x0 + x1)) - 1) - x3), (((x0 + (x0 + x1)) - 1) - x2)] (.cons 1 v0 v1 (.cons 1 v2 (.p v3 v0) (.cons 1 (.p v4 v1) v2 O))) v4 v3 rfl h1 (sbU ((x0 + (x0 + x1)) - 1) x3) (sbE (lin [x2, x0, x1, ((x0 + (x0 + x1)) - 1)] (.cons 1 (.p v0 c1) (.p v1 v2) (.cons 1 (.p v1 (.p v1 v2)) (.p v3 c1) O)) v0 v3 rfl h0 (sbU (x0 + (x0 + x1)) 1))))
theorem a361 {x0 x1 x2 x3 x4 x5 x6 x7 x8 : Nat}  (h0 : ((x6 + x7) ≤ x4)) (h1 : (x2 = ((x5 - x1) + x8))) (h2 : (x3 = x4)) (h3 : (x6 = (x0 + x5))) (h4 : (x8 ≤ x7)) (h5 : (¬ (((x5 - x1) == 0) = true))) : (((x0 + x1) + x2) ≤ x3) := (Or.elim (neqC (fun q => h5 (beq_iff_eq.mpr q))) (fun u2 => (False.elim (linF [(x5 - x1)] (.cons 1 (.p v0 c1) c0 O) rfl u2))) (fun u3 => (Or.elim (Nat.le_total x5 x1) (fun u5 => (False.elim (linF [(x5 - x1)] (.cons 1 (.p c0 c1) v0 (.cons 1 v0 c0 O)) rfl u3 (sbZ u5)))) (fun u6 => (lin [x6, x7, x4, x2, (x5 - x1), x8, x3, x0, x5, x1] (.cons 1 (.p v0 v1) v2 (.cons 1 v3 (.p v4 v5) (.cons 1 v2 v6 (.cons 1 (.p v7 v8) v0 (.cons 1 v5 v1 (.cons 1 (.p v4 v9) v8 O)))))) (.p (.p v7 v9) v3) v6 rfl h0 (Nat.le_of_eq h1) (Nat.le_of_eq (Eq.symm h2)) (Nat.le_of_eq (Eq.symm h3)) h4 (sbE u6))))))
theorem a362 {x0 x1 x2 x3 : Nat}  (h0 : ((x3 + 1) ≤ x1)) (h1 : (x0 ≤ x2)) : ((((x0 + (x0 + x1)) - 1) - x2) < (x0 + x1)) := (Or.elim (Nat.le_total ((x0 + (x0 + x1)) - 1) x2) (fun u2 => (lin [x3, x1, (((x0 + (x0 + x1)) - 1) - x2), x0] (.cons 1 (.p v0 c1) v1 (.cons 1 v2 c0 O)) (.p v2 c1) (.p v3 v1) rfl h0 (sbZ u2))) (fun u3 => (lin [x0, x2, ((x0 + (x0 + x1)) - 1), x1, (((x0 + (x0 + x1)) - 1) - x2)] (.cons 1 v0 v1 (.cons 1 (.p v2 c1) (.p v0 (.p v0 v3)) (.cons 1 (.p v4 v1) v2 O))) (.p v4 c1) (.p v0 v3) rfl h1 (sbE (lin [x3, x1, x0] (.cons 1 (.p v0 c1) v1 O) c1 (.p v2 (.p v2 v1)) rfl h0)) (sbE u3))))
theorem a363 {x0 x1 : Nat}  (h0 : (x0 ≤ x1)) : ((x0 + 0) ≤ x1) := (lin [x0, x1] (.cons 1 v0 v1 O) (.p v0 c0) v1 rfl h0)
theorem a364 {x0 x1 x2 x3 x4 : Nat}  (h0 : (x4 = (x0 + x2))) (h1 : (¬ (((x2 - x1) == 0) = true))) : (((x0 + x1) + ((x2 - x1) + x3)) = (x4 + x3)) := (Or.elim (neqC (fun q => h1 (beq_iff_eq.mpr q))) (fun u1 => (Nat.le_antisymm (False.elim (linF [(x2 - x1)] (.cons 1 (.p v0 c1) c0 O) rfl u1)) (lin [x4, x0, x2, (x2 - x1), x1, x3] (.cons 1 v0 (.p v1 v2) (.cons 1 v2 (.p v3 v4) O)) (.p v0 v5) (.p (.p v1 v4) (.p v3 v5)) rfl (Nat.le_of_eq h0) (sbU x2 x1)))) (fun u2 => (Or.elim (Nat.le_total x2 x1) (fun u3 => (Nat.le_antisymm (False.elim (linF [(x2 - x1)] (.cons 1 (.p c0 c1) v0 (.cons 1 v0 c0 O)) rfl u2 (sbZ u3))) (lin [x4, x0, x2, x1, x3, (x2 - x1)] (.cons 1 v0 (.p v1 v2) (.cons 1 v2 v3 O)) (.p v0 v4) (.p (.p v1 v3) (.p v5 v4)) rfl (Nat.le_of_eq h0) u3))) (fun u4 => (Nat.le_antisymm (lin [x0, x2, x4, (x2 - x1), x1, x3] (.cons 1 (.p v0 v1) v2 (.cons 1 (.p v3 v4) v1 O)) (.p (.p v0 v4) (.p v3 v5)) (.p v2 v5) rfl (Nat.le_of_eq (Eq.symm h0)) (sbE u4)) (lin [x4, x0, x2, (x2 - x1), x1, x3] (.cons 1 v0 (.p v1 v2) (.cons 1 v2 (.p v3 v4) O)) (.p v0 v5) (.p (.p v1 v4) (.p v3 v5)) rfl (Nat.le_of_eq h0) (sbU x2 x1)))))))
theorem a365 {x0 : Nat}  (h0 : (¬ (x0 ≤ 1))) : (((x0 - 2) + 1) < x0) := (lin [(x0 - 2), x0] (.cons 1 (.p v0 c2) v1 O) (.p (.p v0 c1) c1) v1 rfl (sbE (lin [x0] (.cons 1 (.p c1 c1) v0 O) c2 v0 rfl (Nat.lt_of_not_le h0))))
theorem a366 {x0 x1 x2 x3 : Nat}  (h0 : ((x0 + 1) = x3)) (h1 : ((x3 + x1) ≤ x2)) : ((x0 + (x1 + 1)) ≤ x2) := (lin [x0, x3, x1, x2] (.cons 1 (.p v0 c1) v1 (.cons 1 (.p v1 v2) v3 O)) (.p v0 (.p v2 c1)) v3 rfl (Nat.le_of_eq h0) h1)
theorem a367 {x0 x1 : Nat}  (h0 : ((x0 + (max 0 x1)) ≤ x1)) : (x0 ≤ 1) := (lin [x1, (max 0 x1), x0] (.cons 1 v0 v1 (.cons 1 (.p v2 v1) v0 O)) v2 c1 rfl (Nat.le_max_right 0 x1) h0)
theorem a368 {x0 : Nat}  (h0 : (0 = x0)) (h1 : (2 ≤ x0)) : False := (linF [x0] (.cons 1 v0 c0 (.cons 1 c2 v0 O)) rfl (Nat.le_of_eq (Eq.symm h0)) h1)
theorem a369 {x0 x1 x2 x3 x4 x5 : Nat}  (h0 : ((x0 + x3) ≤ x2)) (h1 : ((x5 + 1) ≤ x4)) (h2 : (x1 < x3)) (h3 : (x4 ≤ x1)) : (((x0 + x1) - 1) < x2) := (lin [x0, x3, x2, x1, ((x0 + x1) - 1)] (.cons 1 (.p v0 v1) v2 (.cons 1 (.p v3 c1) v1 (.cons 1 (.p v4 c1) (.p v0 v3) O))) (.p v4 c1) v2 rfl h0 h2 (sbE (lin [x5, x4, x1, x0] (.cons 1 (.p v0 c1) v1 (.cons 1 v1 v2 O)) c1 (.p v3 v2) rfl h1 h3)))
theorem a370 {x0 x1 : Nat}  (h0 : (x0 = ((x1 + 1) + 1))) (h1 : (x0 ≤ 1)) : False := (linF [x1, x0] (.cons 1 (.p (.p v0 c1) c1) v1 (.cons 1 v1 c1 O)) rfl (Nat.le_of_eq (Eq.symm h0)) h1)
theorem a371 {x0 : Nat}  (h0 : (x0 ≤ 40)) : (x0 < 50) := (lin [x0] (.cons 1 v0 (.c 40) O) (.p v0 c1) (.c 50) rfl h0)
theorem a372 {x0 x1 : Nat}  (h0 : (x0 ≤ x1)) (h1 : (x1 ≤ 150)) : (x0 ≤ 1000) := (lin [x0, x1] (.cons 1 v0 v1 (.cons 1 v1 (.c 150) O)) v0 (.c 1000) rfl h0 h1)
theorem a373 {x0 x1 : Nat}  (h0 : (x0 ≤ x1)) (h1 : (x1 ≤ 150)) : ((x0 + 1) ≤ 1000) := (lin [x0, x1] (.cons 1 v0 v1 (.cons 1 v1 (.c 150) O)) (.p v0 c1) (.c 1000) rfl h0 h1)
theorem a374 {x0 : Nat}  (h0 : (x0 ≤ 40)) : (x0 < 100) := (lin [x0] (.cons 1 v0 (.c 40) O) (.p v0 c1) (.c 100) rfl h0)
theorem a375 {x0 x1 : Nat}  (h0 : (x0 ≤ 40)) (h1 : (x1 ≤ 40)) : ((x0 + x1) ≤ 80) := (lin [x0, x1] (.cons 1 v0 (.c 40) (.cons 1 v1 (.c 40) O)) (.p v0 v1) (.c 80) rfl h0 h1)
theorem a376 {x0 : Nat}  (h0 : (x0 ≤ 80)) : (x0 < 100) := (lin [x0] (.cons 1 v0 (.c 80) O) (.p v0 c1) (.c 100) rfl h0)
theorem a377 {x0 x1 : Nat}  (h0 : (x0 ≤ 150)) (h1 : (x1 ≤ 150)) : ((x0 + x1) ≤ 1000) := (lin [x0, x1] (.cons 1 v0 (.c 150) (.cons 1 v1 (.c 150) O)) (.p v0 v1) (.c 1000) rfl h0 h1)
theorem a378 {x0 x1 x2 : Nat}  (h0 : ((x2 + 1) ≤ x1)) (h1 : (x1 ≤ x0)) : (1 ≤ x0) := (lin [x2, x1, x0] (.cons 1 (.p v0 c1) v1 (.cons 1 v1 v2 O)) c1 v2 rfl h0 h1)
theorem a379 {x0 : Nat}  (h0 : (x0 ≤ 40)) : (x0 ≤ 1000) := (lin [x0] (.cons 1 v0 (.c 40) O) v0 (.c 1000) rfl h0)
theorem a380 {x0 x1 x2 x3 : Nat}  (h0 : (x1 ≤ x3)) (h1 : (x2 = (x0 + x3))) : ((x0 + x1) ≤ x2) := (lin [x1, x3, x0, x2] (.cons 1 v0 v1 (.cons 1 (.p v2 v1) v3 O)) (.p v2 v0) v3 rfl h0 (Nat.le_of_eq (Eq.symm h1)))
theorem a381 {x0 : Nat}  (h0 : (60 ≤ x0)) : (2 ≤ (x0 - 1)) := (lin [x0, (x0 - 1)] (.cons 1 (.c 60) v0 (.cons 1 v0 (.p v1 c1) O)) c2 v1 rfl h0 (sbU x0 1))
theorem a382 {x0 x1 : Nat}   : (x0 ≤ (max x0 x1)) := (lin [x0, (max x0 x1)] (.cons 1 v0 v1 O) v0 v1 rfl (Nat.le_max_left x0 x1))
theorem a383 {x0 x1 : Nat}  (h0 : (x0 ≤ x1)) : ((max x0 x1) ≤ x1) := (lin [(max x0 x1), x1] (.cons 1 v0 v1 O) v0 v1 rfl (maxB (lin [x0, x1] (.cons 1 v0 v1 O) v0 v1 rfl h0)))
theorem a384 {x0 x1 x2 x3 x4 x5 x6 x7 : Nat}  (h0 : ((x2 < x0) ∨ ((x5 + x6) ≤ x2))) (h1 : (x3 = ((x4 - x1) + x7))) (h2 : (x5 = (x0 + x4))) (h3 : (x7 ≤ x6)) (h4 : (¬ (((x4 - x1) == 0) = true))) : (¬ (((x0 + x1) ≤ x2) ∧ (x2 < ((x0 + x1) + x3)))) := (fun u1 => (Or.elim h0 (fun u2 => (linF [x0, x1, x2] (.cons 1 (.p v0 v1) v2 (.cons 1 (.p v2 c1) v0 O)) rfl (And.left u1) u2)) (fun u3 => (Or.elim (neqC (fun q => h4 (beq_iff_eq.mpr q))) (fun u4 => (linF [(x4 - x1)] (.cons 1 (.p v0 c1) c0 O) rfl u4)) (fun u5 => (Or.elim (Nat.le_total x4 x1) (fun u6 => (linF [(x4 - x1)] (.cons 1 (.p c0 c1) v0 (.cons 1 v0 c0 O)) rfl u5 (sbZ u6))) (fun u7 => (linF [x3, (x4 - x1), x7, x0, x4, x5, x6, x2, x1] (.cons 1 v0 (.p v1 v2) (.cons 1 (.p v3 v4) v5 (.cons 1 v2 v6 (.cons 1 (.p v7 c1) (.p (.p v3 v8) v0) (.cons 1 (.p v5 v6) v7 (.cons 1 (.p v1 v8) v4 O)))))) rfl (Nat.le_of_eq h1) (Nat.le_of_eq (Eq.symm h2)) h3 (And.right u1) u3 (sbE u7)))))))))
theorem a385 {x0 : Nat}  (h0 : (61 ≤ x0)) : (0 < x0) := (lin [x0] (.cons 1 (.c 61) v0 O) (.p c0 c1) v0 rfl h0)
theorem a386 {x0 : Nat}  (h0 : (60 ≤ x0)) : (0 < x0) := (lin [x0] (.cons 1 (.c 60) v0 O) (.p c0 c1) v0 rfl h0)
theorem a387 {x0 : Nat}  (h0 : (61 ≤ x0)) : (60 ≤ (x0 - 1)) := (lin [x0, (x0 - 1)] (.cons 1 (.c 61) v0 (.cons 1 v0 (.p v1 c1) O)) (.c 60) v1 rfl h0 (sbU x0 1))
theorem a388 {x0 : Nat}  (h0 : (60 ≤ x0)) : (52 ≤ (x0 - 1)) := (lin [x0, (x0 - 1)] (.cons 1 (.c 60) v0 (.cons 1 v0 (.p v1 c1) O)) (.c 52) v1 rfl h0 (sbU x0 1))
theorem a389 {x0 : Nat}  (h0 : (70 ≤ x0)) : (0 < x0) := (lin [x0] (.cons 1 (.c 70) v0 O) (.p c0 c1) v0 rfl h0)
theorem a390 {x0 : Nat}  (h0 : (70 ≤ x0)) : (60 ≤ (x0 - 1)) := (lin [x0, (x0 - 1)] (.cons 1 (.c 70) v0 (.cons 1 v0 (.p v1 c1) O)) (.c 60) v1 rfl h0 (sbU x0 1))
theorem a391 {x0 : Nat}  (h0 : (x0 ≤ 150)) : (x0 ≤ 16777216) := (lin [x0] (.cons 1 v0 (.c 150) O) v0 (.c 16777216) rfl h0)
theorem a392 {x0 x1 x2 x3 : Nat}  (h0 : (x2 < (x0 + x1))) : (¬ (((x0 + x1) ≤ x2) ∧ (x2 < ((x0 + x1) + x3)))) := (fun u1 => (linF [x2, x0, x1] (.cons 1 (.p v0 c1) (.p v1 v2) (.cons 1 (.p v1 v2) v0 O)) rfl h0 (And.left u1)))
theorem a393 {x0 x1 : Int} (h0 : (x0 < x1)) : (x0 ≤ x1) := (Int.le_of_lt h0)
theorem a394 {x0 : Nat}  (h0 : (60 ≤ x0)) : (53 ≤ (x0 - 1)) := (lin [x0, (x0 - 1)] (.cons 1 (.c 60) v0 (.cons 1 v0 (.p v1 c1) O)) (.c 53) v1 rfl h0 (sbU x0 1))
theorem a395 {x0 x1 : Nat}  (h0 : (x0 ≤ x1)) (h1 : (x1 ≤ 150)) : ((x0 + 1) ≤ 16777216) := (lin [x0, x1] (.cons 1 v0 v1 (.cons 1 v1 (.c 150) O)) (.p v0 c1) (.c 16777216) rfl h0 h1)
theorem a397 {x0 : Nat}  (h0 : (3 ≤ x0)) : (0 < x0) := (lin [x0] (.cons 1 c3 v0 O) (.p c0 c1) v0 rfl h0)
theorem a398 {x0 : Nat}  (h0 : (3 ≤ x0)) : (2 ≤ (x0 - 1)) := (lin [x0, (x0 - 1)] (.cons 1 c3 v0 (.cons 1 v0 (.p v1 c1) O)) c2 v1 rfl h0 (sbU x0 1))
theorem a399 {x0 : Nat}  (h0 : (2 ≤ x0)) : (0 < x0) := (lin [x0] (.cons 1 c2 v0 O) (.p c0 c1) v0 rfl h0)
theorem a400 {x0 x1 x2 x3 x4 x5 x6 : Nat}  (h0 : (x0 < (x5 + x6))) (h1 : (x3 = ((x4 - x2) + x6))) (h2 : (x5 = (x1 + x4))) (h3 : (¬ (((x4 - x2) == 0) = true))) (h4 : (¬ ((x6 == 0) = true))) : ((x0 - (x1 + x2)) < x3) := (Or.elim (neqC (fun q => h3 (beq_iff_eq.mpr q))) (fun u2 => (False.elim (linF [(x4 - x2)] (.cons 1 (.p v0 c1) c0 O) rfl u2))) (fun u3 => (Or.elim (neqC (fun q => h4 (beq_iff_eq.mpr q))) (fun u5 => (False.elim (linF [x6] (.cons 1 (.p v0 c1) c0 O) rfl u5))) (fun u6 => (Or.elim (Nat.le_total x4 x2) (fun u8 => (False.elim (linF [(x4 - x2)] (.cons 1 (.p c0 c1) v0 (.cons 1 v0 c0 O)) rfl u3 (sbZ u8)))) (fun u9 => (Or.elim (Nat.le_total x0 (x1 + x2)) (fun u11 => (lin [(x4 - x2), x6, x3, (x0 - (x1 + x2))] (.cons 1 (.p v0 v1) v2 (.cons 1 (.p c0 c1) v1 (.cons 1 v3 c0 O))) (.p v3 c1) v2 rfl (Nat.le_of_eq (Eq.symm h1)) u6 (sbZ u11))) (fun u12 => (Nat.le_of_not_lt fun u13 => (linF [x0, x5, x6, x4, (x4 - x2), x2, x3, x1, (x0 - (x1 + x2))] (.cons 1 (.p v0 c1) (.p v1 v2) (.cons 1 v3 (.p v4 v5) (.cons 1 (.p v4 v2) v6 (.cons 1 v1 (.p v7 v3) (.cons 1 (.p v8 (.p v7 v5)) v0 (.cons 1 (.p v6 c1) (.p v8 c1) O)))))) rfl h0 (sbU x4 x2) (Nat.le_of_eq (Eq.symm h1)) (Nat.le_of_eq h2) (sbE u12) u13))))))))))
theorem a401 {x0 : Nat}  (h0 : (70 ≤ x0)) : (3 ≤ (x0 - 1)) := (lin [x0, (x0 - 1)] (.cons 1 (.c 70) v0 (.cons 1 v0 (.p v1 c1) O)) c3 v1 rfl h0 (sbU x0 1))
theorem a403 {x0 x1 x2 : Nat}  (h0 : (¬ (x2 < (x0 + x1)))) : ((x0 + x1) ≤ x2) := (lin [x0, x1, x2] (.cons 1 (.p v0 v1) v2 O) (.p v0 v1) v2 rfl (Nat.le_of_not_lt h0))
theorem a404 {x0 x1 x2 x3 x4 x5 x6 : Nat}  (h0 : (x2 < (x4 + x6))) (h1 : (x3 = ((x5 - x1) + x6))) (h2 : (x4 = (x0 + x5))) (h3 : (¬ (x2 < (x0 + x1)))) : (((x0 + x1) ≤ x2) ∧ (x2 < ((x0 + x1) + x3))) := (And.intro (lin [x0, x1, x2] (.cons 1 (.p v0 v1) v2 O) (.p v0 v1) v2 rfl (Nat.le_of_not_lt h3)) (lin [x2, x4, x6, x5, (x5 - x1), x1, x3, x0] (.cons 1 (.p v0 c1) (.p v1 v2) (.cons 1 v3 (.p v4 v5) (.cons 1 (.p v4 v2) v6 (.cons 1 v1 (.p v7 v3) O)))) (.p v0 c1) (.p (.p v7 v5) v6) rfl h0 (sbU x5 x1) (Nat.le_of_eq (Eq.symm h1)) (Nat.le_of_eq h2)))
theorem a405 {x0 : Nat}  (h0 : (1 ≤ x0)) (h1 : (¬ (x0 > 1))) : (x0 = 1) := (Nat.le_antisymm (lin [x0] (.cons 1 v0 c1 O) v0 c1 rfl (Nat.le_of_not_lt h1)) (lin [x0] (.cons 1 c1 v0 O) c1 v0 rfl h0))
theorem a406 {x0 : Nat}  (h0 : (x0 ≤ 150)) : (x0 < (2 ^ 62)) := (lin [x0] (.cons 1 v0 (.c 150) O) (.p v0 c1) (.c (2 ^ 62)) rfl h0)
theorem a407 {x0 : Nat}  (h0 : (60 ≤ x0)) : (0 < (x0 - 1)) := (lin [x0, (x0 - 1)] (.cons 1 (.c 60) v0 (.cons 1 v0 (.p v1 c1) O)) (.p c0 c1) v1 rfl h0 (sbU x0 1))
theorem a408 {x0 x1 x2 : Int} (h0 : (((x0 + (1 : Int)) ≤ x1) ∧ (x1 ≤ x2))) : ((x0 ≤ x1) ∧ (x1 ≤ x2)) := (And.intro (Int.le_of_lt (Int.lt_of_add_one_le (And.left h0))) (And.right h0))
theorem a409 {x0 x1 x2 : Nat}  (h0 : (0 < x0)) (h1 : (x0 ≤ x2)) (h2 : (x2 ≤ x1)) : ((x0 - 1) ≤ x1) := (lin [x0, x2, x1, (x0 - 1)] (.cons 1 v0 v1 (.cons 1 v1 v2 (.cons 1 (.p v3 c1) v0 O))) v3 v2 rfl h1 h2 (sbE (lin [x0] (.cons 1 (.p c0 c1) v0 O) c1 v0 rfl h0)))
theorem a410 {x0 x1 x2 : Int} (h0 : ((x0 ≤ x1) ∧ (x1 < x2))) : ((x0 ≤ x1) ∧ (x1 ≤ x2)) := (And.intro (And.left h0) (Int.le_of_lt (And.right h0)))
theorem a411 {x0 : Nat}  (h0 : (x0 ≤ 1000)) : (x0 ≤ 16777216) := (lin [x0] (.cons 1 v0 (.c 1000) O) v0 (.c 16777216) rfl h0)
theorem a412 {x0 x1 x2 x3 x4 x5 x6 : Nat}  (h0 : (x3 = ((x4 - x1) + x6))) (h1 : (x5 = (x0 + x4))) (h2 : (¬ (((x4 - x1) == 0) = true))) (h3 : (¬ (x2 < (x5 + x6)))) : (¬ (((x0 + x1) ≤ x2) ∧ (x2 < ((x0 + x1) + x3)))) := (fun u1 => (Or.elim (neqC (fun q => h2 (beq_iff_eq.mpr q))) (fun u2 => (linF [(x4 - x1)] (.cons 1 (.p v0 c1) c0 O) rfl u2)) (fun u3 => (Or.elim (Nat.le_total x4 x1) (fun u4 => (linF [(x4 - x1)] (.cons 1 (.p c0 c1) v0 (.cons 1 v0 c0 O)) rfl u3 (sbZ u4))) (fun u5 => (linF [x3, (x4 - x1), x6, x0, x4, x5, x2, x1] (.cons 1 v0 (.p v1 v2) (.cons 1 (.p v3 v4) v5 (.cons 1 (.p v5 v2) v6 (.cons 1 (.p v6 c1) (.p (.p v3 v7) v0) (.cons 1 (.p v1 v7) v4 O))))) rfl (Nat.le_of_eq h0) (Nat.le_of_eq (Eq.symm h1)) (Nat.le_of_not_lt h3) (And.right u1) (sbE u5)))))))
theorem a413 {x0 : Nat}  (h0 : (70 ≤ x0)) : (52 ≤ (x0 - 1)) := (lin [x0, (x0 - 1)] (.cons 1 (.c 70) v0 (.cons 1 v0 (.p v1 c1) O)) (.c 52) v1 rfl h0 (sbU x0 1))
theorem a414 {x0 : Nat}  (h0 : (70 ≤ x0)) : (3 ≤ x0) := (lin [x0] (.cons 1 (.c 70) v0 O) c3 v0 rfl h0)
theorem a415 {x0 x1 x2 : Nat}  (h0 : (1 < x2)) (h1 : (x0 ≤ (x2 - 1))) (h2 : (x2 ≤ x1)) : (x0 ≤ x1) := (lin [x0, (x2 - 1), x2, x1] (.cons 1 v0 v1 (.cons 1 v2 v3 (.cons 1 (.p v1 c1) v2 O))) v0 v3 rfl h1 h2 (sbE (lin [x2] (.cons 1 (.p c1 c1) v0 O) c1 v0 rfl h0)))
theorem a416 {x0 : Nat}  (h0 : (70 ≤ x0)) : (2 ≤ x0) := (lin [x0] (.cons 1 (.c 70) v0 O) c2 v0 rfl h0)
theorem a417 {x0 : Nat}  (h0 : (70 ≤ x0)) : (61 ≤ (x0 - 1)) := (lin [x0, (x0 - 1)] (.cons 1 (.c 70) v0 (.cons 1 v0 (.p v1 c1) O)) (.c 61) v1 rfl h0 (sbU x0 1))
theorem a418 {x0 x1 : Nat}  (h0 : ((x0 + 1) < (x1 + 1))) : (x0 < x1) := (lin [x0, x1] (.cons 1 (.p (.p v0 c1) c1) (.p v1 c1) O) (.p v0 c1) v1 rfl h0)
theorem a419 {x0 x1 x2 : Nat}  (h0 : (¬ (x1 < (x0 + x2)))) : ((x0 + (x1 - x0)) = x1) := (Nat.le_antisymm (lin [(x1 - x0), x0, x1] (.cons 1 (.p v0 v1) v2 O) (.p v1 v0) v2 rfl (sbE (lin [x0, x2, x1] (.cons 1 (.p v0 v1) v2 O) v0 v2 rfl (Nat.le_of_not_lt h0)))) (lin [x1, (x1 - x0), x0] (.cons 1 v0 (.p v1 v2) O) v0 (.p v2 v1) rfl (sbU x1 x0)))
theorem a420 {x0 : Nat}  (h0 : (70 ≤ x0)) : (60 ≤ x0) := (lin [x0] (.cons 1 (.c 70) v0 O) (.c 60) v0 rfl h0)
theorem a421 {x0 : Nat}  (h0 : (80 ≤ x0)) : (3 ≤ x0) := (lin [x0] (.cons 1 (.c 80) v0 O) c3 v0 rfl h0)
theorem a422 {x0 : Nat}  (h0 : (((x0 : Nat) : Int) = (0 : Int))) : (x0 = 0) := (Nat.le_antisymm (lin [x0] (.cons 1 v0 c0 O) v0 c0 rfl (Nat.le_of_eq (Int.ofNat_inj.mp h0))) (lin [x0] O c0 v0 rfl ))
theorem a423 {x0 : Nat}  (h0 : (70 ≤ x0)) : (61 ≤ x0) := (lin [x0] (.cons 1 (.c 70) v0 O) (.c 61) v0 rfl h0)
theorem a424 {x0 : Nat}  (h0 : (x0 ≤ 40)) : (x0 < (2 ^ 62)) := (lin [x0] (.cons 1 v0 (.c 40) O) (.p v0 c1) (.c (2 ^ 62)) rfl h0)
theorem a425 {x0 x1 x2 x3 x4 x5 x6 : Nat}  (h0 : (((x6 + x5) + x2) ≤ (x3 + x4))) (h1 : (0 < x0)) (h2 : (1 < x5)) (h3 : (x0 ≤ x6)) (h4 : (x1 ≤ (x5 - 1))) : ((((x0 - 1) + x1) + (x2 + 1)) ≤ (x3 + x4)) := (lin [x6, x5, x2, x3, x4, x0, x1, (x5 - 1), (x0 - 1)] (.cons 1 (.p (.p v0 v1) v2) (.p v3 v4) (.cons 1 v5 v0 (.cons 1 v6 v7 (.cons 1 (.p v7 c1) v1 (.cons 1 (.p v8 c1) v5 O))))) (.p (.p v8 v6) (.p v2 c1)) (.p v3 v4) rfl h0 h3 h4 (sbE (lin [x5] (.cons 1 (.p c1 c1) v0 O) c1 v0 rfl h2)) (sbE (lin [x0] (.cons 1 (.p c0 c1) v0 O) c1 v0 rfl h1)))
theorem a426 {x0 x1 : Nat}  (h0 : (x0 ≤ 40)) (h1 : (x1 ≤ 40)) : ((x0 + x1) ≤ 16777216) := (lin [x0, x1] (.cons 1 v0 (.c 40) (.cons 1 v1 (.c 40) O)) (.p v0 v1) (.c 16777216) rfl h0 h1)
theorem a427 {x0 x1 x2 x3 : Nat}  (h0 : (x0 ≤ x3)) (h1 : (x3 < (x1 + x2))) : (x0 < (x1 + x2)) := (lin [x0, x3, x1, x2] (.cons 1 v0 v1 (.cons 1 (.p v1 c1) (.p v2 v3) O)) (.p v0 c1) (.p v2 v3) rfl h0 h1)
theorem a428 {x0 : Nat}  (h0 : (120 ≤ x0)) : (3 ≤ x0) := (lin [x0] (.cons 1 (.c 120) v0 O) c3 v0 rfl h0)
theorem a429 {x0 : Nat}  (h0 : (¬ ((x0 == 0) = true))) (h1 : (¬ ((x0 == 1) = true))) : (1 < x0) := (Or.elim (neqC (fun q => h0 (beq_iff_eq.mpr q))) (fun u2 => (lin [x0] (.cons 2 (.p v0 c1) c0 O) (.p c1 c1) v0 rfl u2)) (fun u3 => (Or.elim (neqC (fun q => h1 (beq_iff_eq.mpr q))) (fun u5 => (lin [x0] (.cons 2 (.p c0 c1) v0 (.cons 1 (.p v0 c1) c1 O)) (.p c1 c1) v0 rfl u3 u5)) (fun u6 => (lin [x0] (.cons 1 (.p c1 c1) v0 O) (.p c1 c1) v0 rfl u6)))))
theorem a431 {x0 : Nat}  (h0 : (x0 ≤ 150)) : (x0 ≤ 10000) := (lin [x0] (.cons 1 v0 (.c 150) O) v0 (.c 10000) rfl h0)
theorem a432 {x0 x1 : Nat}  (h0 : (x0 ≤ 150)) (h1 : (x1 ≤ 150)) : ((x0 + x1) ≤ 16777216) := (lin [x0, x1] (.cons 1 v0 (.c 150) (.cons 1 v1 (.c 150) O)) (.p v0 v1) (.c 16777216) rfl h0 h1)
theorem a433 {x0 x1 x2 x3 x4 x5 : Nat}  (h0 : ((x3 + x4) ≤ x2)) (h1 : (x2 ≤ x1)) (h2 : (x3 = (x0 + x5))) : (x0 ≤ x1) := (lin [x3, x4, x2, x1, x0, x5] (.cons 1 (.p v0 v1) v2 (.cons 1 v2 v3 (.cons 1 (.p v4 v5) v0 O))) v4 v3 rfl h0 h1 (Nat.le_of_eq (Eq.symm h2)))
theorem a435 {x0 x1 x2 x3 x4 : Nat}  (h0 : (x0 < (x4 + x2))) (h1 : (x1 = (x4 + x3))) (h2 : (x2 ≤ x3)) : (x0 < x1) := (lin [x0, x4, x2, x3, x1] (.cons 1 (.p v0 c1) (.p v1 v2) (.cons 1 (.p v1 v3) v4 (.cons 1 v2 v3 O))) (.p v0 c1) v4 rfl h0 (Nat.le_of_eq (Eq.symm h1)) h2)
theorem a436 {x0 : Nat}  (h0 : (0 < x0)) : (((x0 : Nat) : Int) ≠ (0 : Int)) := (fun q => (fun u1 => (linF [x0] (.cons 1 (.p c0 c1) v0 (.cons 1 v0 c0 O)) rfl h0 (Nat.le_of_eq u1))) (Int.ofNat_inj.mp q))
theorem a437 {x0 x1 x2 x3 x4 : Int} (h0 : (x0 = x2)) (h1 : (x1 = x3)) (h2 : (x2 ≤ x4)) (h3 : (x4 ≤ x3)) : (x0 ≤ x1) := (Int.le_trans (Int.le_trans (Int.le_trans (Int.le_of_eq h0) h2) h3) (Int.le_of_eq (Eq.symm h1)))
theorem a438 {x0 x1 x2 x3 x4 x5 : Int} (h0 : ((x5 + (1 : Int)) ≤ x4)) (h1 : (x0 = x2)) (h2 : (x1 = x3)) (h3 : (x2 ≤ x5)) (h4 : (x4 ≤ x3)) : (x0 ≤ x1) := (Int.le_of_lt (Int.lt_of_lt_of_le (Int.lt_of_lt_of_le (Int.lt_of_le_of_lt (Int.le_trans (Int.le_of_eq h1) h3) (Int.lt_of_add_one_le h0)) h4) (Int.le_of_eq (Eq.symm h2))))
theorem a439 {x0 : Nat}  (h0 : (¬ ((x0 == 0) = true))) : (0 < x0) := (Or.elim (neqC (fun q => h0 (beq_iff_eq.mpr q))) (fun u2 => (lin [x0] (.cons 1 (.p v0 c1) c0 O) (.p c0 c1) v0 rfl u2)) (fun u3 => (lin [x0] (.cons 1 (.p c0 c1) v0 O) (.p c0 c1) v0 rfl u3)))
theorem a440 {x0 : Nat}  (h0 : (80 ≤ x0)) : (70 ≤ x0) := (lin [x0] (.cons 1 (.c 80) v0 O) (.c 70) v0 rfl h0)
theorem a441 {x0 x1 x2 x3 : Nat}  (h0 : ((x2 + x3) ≤ x0)) (h1 : (x0 ≤ x1)) (h2 : (x1 < (x2 + x3))) : False := (linF [x2, x3, x0, x1] (.cons 1 (.p v0 v1) v2 (.cons 1 v2 v3 (.cons 1 (.p v3 c1) (.p v0 v1) O))) rfl h0 h1 h2)
theorem a442 {x0 : Nat}  (h0 : (80 ≤ x0)) : (0 < x0) := (lin [x0] (.cons 1 (.c 80) v0 O) (.p c0 c1) v0 rfl h0)
theorem a443 {x0 : Nat}  (h0 : (120 ≤ x0)) : (70 ≤ x0) := (lin [x0] (.cons 1 (.c 120) v0 O) (.c 70) v0 rfl h0)
theorem a444 {x0 : Nat}  (h0 : (80 ≤ x0)) : (70 ≤ (x0 - 1)) := (lin [x0, (x0 - 1)] (.cons 1 (.c 80) v0 (.cons 1 v0 (.p v1 c1) O)) (.c 70) v1 rfl h0 (sbU x0 1))
theorem a446 {x0 : Nat}  (h0 : (120 ≤ x0)) : (110 ≤ x0) := (lin [x0] (.cons 1 (.c 120) v0 O) (.c 110) v0 rfl h0)
theorem a447 {x0 x1 x2 x3 : Nat}  (h0 : (x0 ≤ x3)) : ((x0 - (x1 + x2)) ≤ (x3 - (x1 + x2))) := (Or.elim (Nat.le_total x0 (x1 + x2)) (fun u2 => (lin [(x0 - (x1 + x2)), (x3 - (x1 + x2))] (.cons 1 v0 c0 O) v0 v1 rfl (sbZ u2))) (fun u3 => (lin [x0, x3, (x3 - (x1 + x2)), x1, x2, (x0 - (x1 + x2))] (.cons 1 v0 v1 (.cons 1 v1 (.p v2 (.p v3 v4)) (.cons 1 (.p v5 (.p v3 v4)) v0 O))) v5 v2 rfl h0 (sbU x3 (x1 + x2)) (sbE u3))))
theorem a448 {x0 : Nat}  (h0 : (120 ≤ x0)) : (0 < x0) := (lin [x0] (.cons 1 (.c 120) v0 O) (.p c0 c1) v0 rfl h0)
theorem a449 {x0 : Nat}  (h0 : (120 ≤ x0)) : (60 ≤ x0) := (lin [x0] (.cons 1 (.c 120) v0 O) (.c 60) v0 rfl h0)
theorem a450 {x0 : Nat}  (h0 : (120 ≤ x0)) : (70 ≤ (x0 - 1)) := (lin [x0, (x0 - 1)] (.cons 1 (.c 120) v0 (.cons 1 v0 (.p v1 c1) O)) (.c 70) v1 rfl h0 (sbU x0 1))
theorem a451 {x0 x1 x2 x3 x4 x5 x6 : Nat}  (h0 : ((x4 + x6) ≤ x5)) (h1 : (x0 ≤ x1)) (h2 : (x2 < (x3 + x0))) (h3 : (x4 = (x3 + x1))) (h4 : (x5 ≤ x2)) : False := (linF [x4, x6, x5, x0, x1, x2, x3] (.cons 1 (.p v0 v1) v2 (.cons 1 v3 v4 (.cons 1 (.p v5 c1) (.p v6 v3) (.cons 1 (.p v6 v4) v0 (.cons 1 v2 v5 O))))) rfl h0 h1 h2 (Nat.le_of_eq (Eq.symm h3)) h4)
theorem a452 {x0 x1 x2 : Nat}  (h0 : (x0 = (x1 - x2))) (h1 : (¬ (((x1 - x2) == 0) = true))) : (1 ≤ x0) := (Or.elim (neqC (fun q => h1 (beq_iff_eq.mpr q))) (fun u2 => (lin [(x1 - x2), x0] (.cons 1 (.p v0 c1) c0 O) c1 v1 rfl u2)) (fun u3 => (lin [(x1 - x2), x0] (.cons 1 v0 v1 (.cons 1 (.p c0 c1) v0 O)) c1 v1 rfl (Nat.le_of_eq (Eq.symm h0)) u3)))
theorem a453 {x0 : Int} (h0 : ((0 : Int) ≤ (x0 % (10 : Int)))) : ((x0 % (10 : Int)) = (((Int.toNat (x0 % (10 : Int))) : Nat) : Int)) := by first | lia | omega
theorem a454 {x0 : Nat} {x1 : Int} (h0 : ((x1 % (10 : Int)) = ((x0 : Nat) : Int))) : (x0 < 10) := by first | lia | omega
theorem a455 {x0 x1 : Nat}  (h0 : (x0 = x1)) (h1 : (¬ ((x1 == 0) = true))) : (1 ≤ x0) := (Or.elim (neqC (fun q => h1 (beq_iff_eq.mpr q))) (fun u2 => (lin [x1, x0] (.cons 1 (.p v0 c1) c0 O) c1 v1 rfl u2)) (fun u3 => (lin [x1, x0] (.cons 1 v0 v1 (.cons 1 (.p c0 c1) v0 O)) c1 v1 rfl (Nat.le_of_eq (Eq.symm h0)) u3)))
theorem a456 {x0 : Int}  : ((Int.toNat (((x0 / (4 : Int)) % (7 : Int)) + ((34 : Int) * (1 : Int)))) ≤ 40) := by first | lia | omega
theorem a457 {x0 : Int}  : ((Int.toNat (((x0 / (4 : Int)) % (7 : Int)) + ((34 : Int) * (0 : Int)))) ≤ 40) := by first | lia | omega
theorem a458 {x0 : Int} (h0 : ((0 : Int) ≤ ((x0 / (4 : Int)) % (7 : Int)))) : ((((x0 / (4 : Int)) % (7 : Int)) + ((34 : Int) * (1 : Int))) = (((Int.toNat (((x0 / (4 : Int)) % (7 : Int)) + ((34 : Int) * (1 : Int)))) : Nat) : Int)) := by first | lia | omega
theorem a459 {x0 : Int} (h0 : ((0 : Int) ≤ ((x0 / (4 : Int)) % (7 : Int)))) : ((((x0 / (4 : Int)) % (7 : Int)) + ((34 : Int) * (0 : Int))) = (((Int.toNat (((x0 / (4 : Int)) % (7 : Int)) + ((34 : Int) * (0 : Int)))) : Nat) : Int)) := by first | lia | omega
theorem a460 {x0 : Int}  : ((Int.toNat ((x0 / (23 : Int)) % (5 : Int))) < 5) := by first | lia | omega
theorem a461 {x0 : Int}  : ((x0 % (10 : Int)) < ((2 : Int) ^ 62)) := by first | lia | omega
theorem a464 {x0 : Nat}  (h0 : (4 ≤ x0)) : (0 < x0) := (lin [x0] (.cons 1 c4 v0 O) (.p c0 c1) v0 rfl h0)
theorem a465 {x0 : Nat}  (h0 : (x0 ≤ 1000)) : ((x0 + 1) < (2 ^ 62)) := (lin [x0] (.cons 1 v0 (.c 1000) O) (.p (.p v0 c1) c1) (.c (2 ^ 62)) rfl h0)
theorem a466 {x0 : Nat}  (h0 : (x0 ≤ 1000)) : (x0 ≤ 10000) := (lin [x0] (.cons 1 v0 (.c 1000) O) v0 (.c 10000) rfl h0)
theorem a467 {x0 : Nat}   : (¬ ((((x0 + 1) : Nat) : Int) = (0 : Int))) := (fun q => (fun u1 => (linF [x0] (.cons 1 (.p v0 c1) c0 O) rfl (Nat.le_of_eq u1))) (Int.ofNat_inj.mp q))
theorem a468 {x0 : Nat}  (h0 : (80 ≤ x0)) : (4 ≤ x0) := (lin [x0] (.cons 1 (.c 80) v0 O) c4 v0 rfl h0)
theorem a473 {x0 : Int}  : (((x0 / (23 : Int)) % (5 : Int)) < ((2 : Int) ^ 62)) := by first | lia | omega
theorem a476 {x0 x1 x2 : Nat}  (h0 : (x2 ≤ x1)) (h1 : (¬ ((40 : Int) < ((((x1 : Nat) : Int) - ((x2 : Nat) : Int)) + ((x0 : Nat) : Int))))) : ((x0 + (x1 - x2)) ≤ 40) := by first | lia | omega
theorem a478 {x0 x1 x2 : Nat}  (h0 : ((x0 + x1) = x2)) : (((x0 + 1) + x1) = (x2 + 1)) := (Nat.le_antisymm (lin [x0, x1, x2] (.cons 1 (.p v0 v1) v2 O) (.p (.p v0 c1) v1) (.p v2 c1) rfl (Nat.le_of_eq h0)) (lin [x2, x0, x1] (.cons 1 v0 (.p v1 v2) O) (.p v0 c1) (.p (.p v1 c1) v2) rfl (Nat.le_of_eq (Eq.symm h0))))
theorem a479 {x0 x1 x2 : Nat}  (h0 : ((x0 + x1) = x2)) : ((x0 + (x1 + 1)) = (x2 + 1)) := (Nat.le_antisymm (lin [x0, x1, x2] (.cons 1 (.p v0 v1) v2 O) (.p v0 (.p v1 c1)) (.p v2 c1) rfl (Nat.le_of_eq h0)) (lin [x2, x0, x1] (.cons 1 v0 (.p v1 v2) O) (.p v0 c1) (.p v1 (.p v2 c1)) rfl (Nat.le_of_eq (Eq.symm h0))))
theorem a480 {x0 : Nat}  (h0 : (130 ≤ x0)) : (80 ≤ x0) := (lin [x0] (.cons 1 (.c 130) v0 O) (.c 80) v0 rfl h0)
theorem a485 {x0 : Nat}  (h0 : (x0 < 6)) : ((x0 = 0) ∨ ((x0 = 1) ∨ ((x0 = 2) ∨ ((x0 = 3) ∨ ((x0 = 4) ∨ (x0 = 5)))))) := by first | lia | omega
theorem a486 {x0 x1 x2 : Nat}  (h0 : ((x0 + x1) ≤ x2)) (h1 : (3 ≤ x1)) : (((x0 + 1) + (x1 - 1)) ≤ x2) := (lin [x0, x1, x2, (x1 - 1)] (.cons 1 (.p v0 v1) v2 (.cons 1 (.p v3 c1) v1 O)) (.p (.p v0 c1) v3) v2 rfl h0 (sbE (lin [x1] (.cons 1 c3 v0 O) c1 v0 rfl h1)))
theorem a487 {x0 : Nat}  (h0 : (130 ≤ x0)) : (129 ≤ (x0 - 1)) := (lin [x0, (x0 - 1)] (.cons 1 (.c 130) v0 (.cons 1 v0 (.p v1 c1) O)) (.c 129) v1 rfl h0 (sbU x0 1))
theorem a489 {x0 : Nat}  (h0 : (130 ≤ x0)) : (120 ≤ x0) := (lin [x0] (.cons 1 (.c 130) v0 O) (.c 120) v0 rfl h0)
theorem a490 {x0 x1 x2 x3 : Nat}  (h0 : (((x0 + (10 * x2)) + 100) ≤ x3)) (h1 : (3 ≤ x2)) (h2 : (x1 ≤ 10)) : ((((x0 + x1) + (10 * (x2 - 1))) + 100) ≤ x3) := (Nat.le_of_not_lt fun u1 => (linF [x0, x2, x3, x1, (x2 - 1)] (.cons 1 (.p (.p v0 (.m 10 v1)) (.c 100)) v2 (.cons 1 v3 (.c 10) (.cons 10 (.p v4 c1) v1 (.cons 1 (.p v2 c1) (.p (.p (.p v0 v3) (.m 10 v4)) (.c 100)) O)))) rfl h0 h2 (sbE (lin [x2] (.cons 1 c3 v0 O) c1 v0 rfl h1)) u1))
theorem a492 {x0 : Nat}  (h0 : (3 ≤ x0)) : (0 < (x0 - 1)) := (lin [x0, (x0 - 1)] (.cons 1 c3 v0 (.cons 1 v0 (.p v1 c1) O)) (.p c0 c1) v1 rfl h0 (sbU x0 1))
theorem a493 {x0 : Nat}  (h0 : (129 ≤ x0)) : (3 ≤ x0) := (lin [x0] (.cons 1 (.c 129) v0 O) c3 v0 rfl h0)
theorem a494 {x0 : Nat}  (h0 : (129 ≤ x0)) : (70 ≤ x0) := (lin [x0] (.cons 1 (.c 129) v0 O) (.c 70) v0 rfl h0)
theorem a497 {x0 : Nat}  (h0 : (0 < x0)) : ((0 : Int) < ((x0 : Nat) : Int)) := (Int.ofNat_lt.mpr (lin [x0] (.cons 1 (.p c0 c1) v0 O) (.p c0 c1) v0 rfl h0))
theorem a498 {x0 : Nat}  (h0 : (x0 ≤ 10000)) : (x0 < (2 ^ 62)) := (lin [x0] (.cons 1 v0 (.c 10000) O) (.p v0 c1) (.c (2 ^ 62)) rfl h0)
theorem a499 {x0 x1 : Nat}  (h0 : (((x0 : Nat) : Int) < ((x1 : Nat) : Int))) (h1 : (x1 ≤ 10000)) : (((x0 : Nat) : Int) < ((2 : Int) ^ 62)) := (Int.ofNat_lt.mpr (lin [x0, x1] (.cons 1 (.p v0 c1) v1 (.cons 1 v1 (.c 10000) O)) (.p v0 c1) (.c (2 ^ 62)) rfl (Int.ofNat_lt.mp h0) h1))
theorem a504 {x0 x1 x2 : Nat}  (h0 : (x0 ≤ 40)) (h1 : (x1 = x2)) (h2 : (x2 ≤ 40)) : ((x0 + x1) ≤ 16777216) := (lin [x0, x1, x2] (.cons 1 v0 (.c 40) (.cons 1 v1 v2 (.cons 1 v2 (.c 40) O))) (.p v0 v1) (.c 16777216) rfl h0 (Nat.le_of_eq h1) h2)
theorem a505 {x0 : Nat}   : ((0 : Int) < (((x0 : Nat) : Int) + (1 : Int))) := (Int.ofNat_lt.mpr (lin [x0] O (.p c0 c1) (.p v0 c1) rfl ))
theorem a506 {x0 : Nat}  (h0 : (x0 ≤ 40)) : (x0 ≤ 16777216) := (lin [x0] (.cons 1 v0 (.c 40) O) v0 (.c 16777216) rfl h0)
theorem a507 {x0 : Nat}  (h0 : (129 ≤ x0)) : (80 ≤ x0) := (lin [x0] (.cons 1 (.c 129) v0 O) (.c 80) v0 rfl h0)
theorem a508 {x0 : Nat}  (h0 : (4 ≤ x0)) : (3 ≤ (x0 - 1)) := (lin [x0, (x0 - 1)] (.cons 1 c4 v0 (.cons 1 v0 (.p v1 c1) O)) c3 v1 rfl h0 (sbU x0 1))
theorem a512 {x0 : Nat}  (h0 : (129 ≤ x0)) : (120 ≤ x0) := (lin [x0] (.cons 1 (.c 129) v0 O) (.c 120) v0 rfl h0)
theorem a516 {x0 : Nat}  (h0 : (120 ≤ x0)) : (80 ≤ (x0 - 1)) := (lin [x0, (x0 - 1)] (.cons 1 (.c 120) v0 (.cons 1 v0 (.p v1 c1) O)) (.c 80) v1 rfl h0 (sbU x0 1))
theorem a521 {x0 : Nat}  (h0 : (130 ≤ x0)) : (0 < x0) := (lin [x0] (.cons 1 (.c 130) v0 O) (.p c0 c1) v0 rfl h0)
theorem a527 {x0 : Nat}   : ((-((2 : Int) ^ 62)) ≤ ((x0 : Nat) : Int)) := by first | lia | omega
theorem a528 {x0 : Nat}  (h0 : (x0 < (2 ^ 62))) : (((x0 : Nat) : Int) < ((2 : Int) ^ 62)) := (Int.ofNat_lt.mpr (lin [x0] (.cons 1 (.p v0 c1) (.c (2 ^ 62)) O) (.p v0 c1) (.c (2 ^ 62)) rfl h0))
theorem a530 {x0 : Nat}  (h0 : (x0 ≤ 63)) : (x0 < (2 ^ 62)) := (lin [x0] (.cons 1 v0 (.c 63) O) (.p v0 c1) (.c (2 ^ 62)) rfl h0)
theorem a531 {x1 : Nat} {x0 : Int} (h0 : (x0 < ((x1 : Nat) : Int))) (h1 : (x1 ≤ 63)) : (x0 < ((2 : Int) ^ 62)) := by first | lia | omega
theorem a532 {x0 : Nat} {x1 : Int} (h0 : ((0 : Int) ≤ x1)) (h1 : (¬ (x1 < ((x0 : Nat) : Int)))) : (x0 ≤ (Int.toNat x1)) := by first | lia | omega
theorem a533   : (60 ≤ 60) := (lin [] O (.c 60) (.c 60) rfl )
theorem a534 {x0 : Int}  : ((Int.toNat ((1 : Int) + ((x0 / (10 : Int)) % (60 : Int)))) ≤ 60) := by first | lia | omega
theorem a536 {x0 : Int}  : ((0 : Int) ≤ ((1 : Int) + ((x0 / (10 : Int)) % (60 : Int)))) := by first | lia | omega
theorem a537 {x0 x1 : Nat}  (h0 : ((x0 + x1) ≤ 1000)) : (x0 ≤ 1000) := (lin [x0, x1] (.cons 1 (.p v0 v1) (.c 1000) O) v0 (.c 1000) rfl h0)
theorem a543 {x0 : Nat}  (h0 : (x0 ≤ 1000)) : (((x0 : Nat) : Int) < ((2 : Int) ^ 62)) := (Int.ofNat_lt.mpr (lin [x0] (.cons 1 v0 (.c 1000) O) (.p v0 c1) (.c (2 ^ 62)) rfl h0))
theorem a544 {x0 : Nat} {x1 : Int} (h0 : (¬ ((Int.toNat x1) ≤ x0))) : (x0 ≤ (Int.toNat x1)) := by first | lia | omega
theorem a545 {x0 : Nat}   : ((0 : Int) ≤ ((x0 : Nat) : Int)) := (Int.ofNat_le.mpr (lin [x0] O c0 v0 rfl ))
theorem a546 {x0 : Nat}   : ((0 : Int) ≤ (((x0 : Nat) : Int) + (1 : Int))) := (Int.ofNat_le.mpr (lin [x0] O c0 (.p v0 c1) rfl ))
theorem a547 {x0 : Nat}   : (¬ (((x0 : Nat) : Int) < (0 : Int))) := (fun q => (fun u1 => (linF [x0] (.cons 1 (.p v0 c1) c0 O) rfl u1)) (Int.ofNat_lt.mp q))
theorem a548 {x0 : Nat}   : (¬ ((((x0 : Nat) : Int) + (1 : Int)) < (0 : Int))) := (fun q => (fun u1 => (linF [x0] (.cons 1 (.p (.p v0 c1) c1) c0 O) rfl u1)) (Int.ofNat_lt.mp q))
theorem a550 {x0 : Nat}  (h0 : (¬ ((((x0 : Nat) : Int) + (1 : Int)) < (0 : Int)))) : ((Int.toNat (((x0 : Nat) : Int) + (1 : Int))) = (x0 + 1)) := by first | lia | omega
theorem a553 {x0 x1 : Nat}  (h0 : (¬ (x0 < x1))) : ((min x0 x1) = x1) := (Nat.le_antisymm (lin [(min x0 x1), x1] (.cons 1 v0 v1 O) v0 v1 rfl (Nat.min_le_right x0 x1)) (lin [x1, (min x0 x1)] (.cons 1 v0 v1 O) v0 v1 rfl (minB (lin [x1, x0] (.cons 1 v0 v1 O) v0 v1 rfl (Nat.le_of_not_lt h0)))))
theorem a554 {x0 x1 : Nat}   : ((min (min (x0 + 1) x1) x1) ≤ x1) := (lin [(min (min (x0 + 1) x1) x1), x1] (.cons 1 v0 v1 O) v0 v1 rfl (Nat.min_le_right (min (x0 + 1) x1) x1))
theorem a555 {x0 : Nat}   : (¬ (x0 < 0)) := (fun u1 => (linF [x0] (.cons 1 (.p v0 c1) c0 O) rfl u1))
theorem a556 {x0 x1 x2 : Nat}  (h0 : (0 < x1)) (h1 : (x0 ≤ x2)) : ((x0 + 1) ≤ (x1 + x2)) := (lin [x1, x0, x2] (.cons 1 (.p c0 c1) v0 (.cons 1 v1 v2 O)) (.p v1 c1) (.p v0 v2) rfl h0 h1)
theorem a557 {x0 : Nat}   : (2 ≤ ((3 * (x0 + 1)) + 1)) := (lin [x0] O c2 (.p (.m 3 (.p v0 c1)) c1) rfl )
theorem a558 {x0 x1 : Nat}  (h0 : (x1 < x0)) : (1 ≤ x0) := (lin [x1, x0] (.cons 1 (.p v0 c1) v1 O) c1 v1 rfl h0)
theorem a559 {x0 : Nat}  (h0 : ((x0 + 1) ≤ 300)) : (x0 ≤ 300) := (lin [x0] (.cons 1 (.p v0 c1) (.c 300) O) v0 (.c 300) rfl h0)
theorem a560 {x0 x1 x2 : Nat}  (h0 : (1 ≤ x2)) (h1 : (x0 < (x2 + 1))) : ((x0 - (x1 + 1)) < x2) := (Or.elim (Nat.le_total x0 (x1 + 1)) (fun u2 => (lin [x2, (x0 - (x1 + 1))] (.cons 1 c1 v0 (.cons 1 v1 c0 O)) (.p v1 c1) v0 rfl h0 (sbZ u2))) (fun u3 => (lin [x0, x2, (x0 - (x1 + 1)), x1] (.cons 1 (.p v0 c1) (.p v1 c1) (.cons 1 (.p v2 (.p v3 c1)) v0 O)) (.p v2 c1) v1 rfl h1 (sbE u3))))
theorem a561 {x0 x1 x2 : Nat}  (h0 : (x0 ≤ x2)) (h1 : (x1 = 16777216)) (h2 : (x2 ≤ 1000)) : (x0 ≤ x1) := (lin [x0, x2, x1] (.cons 1 v0 v1 (.cons 1 (.c 16777216) v2 (.cons 1 v1 (.c 1000) O))) v0 v2 rfl h0 (Nat.le_of_eq (Eq.symm h1)) h2)
theorem a562 {x0 x1 : Nat}  (h0 : (x0 ≤ x1)) (h1 : (x1 ≤ 1000)) : (x0 ≤ 1000) := (lin [x0, x1] (.cons 1 v0 v1 (.cons 1 v1 (.c 1000) O)) v0 (.c 1000) rfl h0 h1)
theorem a563 {x0 x1 : Nat}  (h0 : (x0 < x1)) (h1 : (x1 ≤ 1000)) : (((0 + x0) + 1) ≤ 16777216) := (lin [x0, x1] (.cons 1 (.p v0 c1) v1 (.cons 1 v1 (.c 1000) O)) (.p (.p c0 v0) c1) (.c 16777216) rfl h0 h1)
theorem a565 {x0 : Nat}  (h0 : (x0 ≤ 1000)) : (x0 < (2 ^ 62)) := (lin [x0] (.cons 1 v0 (.c 1000) O) (.p v0 c1) (.c (2 ^ 62)) rfl h0)
theorem a568 {x0 x1 x2 x3 x4 : Nat}  (h0 : ((((x0 : Nat) : Int) < ((x1 : Nat) : Int)) ∧ ((((x0 : Nat) : Int) < ((x2 : Nat) : Int)) ∧ (x3 = x4)))) : (x0 < x1) := (lin [x0, x1] (.cons 1 (.p v0 c1) v1 O) (.p v0 c1) v1 rfl (Int.ofNat_lt.mp (And.left h0)))
theorem a569 {x0 : Nat}  (h0 : (x0 ≤ 60)) : (((x0 : Nat) : Int) < ((2 : Int) ^ 62)) := (Int.ofNat_lt.mpr (lin [x0] (.cons 1 v0 (.c 60) O) (.p v0 c1) (.c (2 ^ 62)) rfl h0))
theorem a570 {x0 x1 x2 x3 x4 : Nat}  (h0 : ((((x0 : Nat) : Int) < ((x2 : Nat) : Int)) ∧ ((((x0 : Nat) : Int) < ((x1 : Nat) : Int)) ∧ (x3 = x4)))) : (x0 < x1) := (lin [x0, x1] (.cons 1 (.p v0 c1) v1 O) (.p v0 c1) v1 rfl (Int.ofNat_lt.mp (And.left (And.right h0))))
theorem a572 {x0 x1 x2 x3 x4 : Nat}  (h0 : ((((x1 : Nat) : Int) < ((x0 : Nat) : Int)) ∧ ((((x1 : Nat) : Int) < ((x2 : Nat) : Int)) ∧ (x3 = x4)))) : ((x0 - (x1 + 1)) < (x0 - x1)) := (lin [x0, (x0 - x1), x1, (x0 - (x1 + 1))] (.cons 1 v0 (.p v1 v2) (.cons 1 (.p v3 (.p v2 c1)) v0 O)) (.p v3 c1) v1 rfl (sbU x0 x1) (sbE (lin [x1, x0] (.cons 1 (.p v0 c1) v1 O) (.p v0 c1) v1 rfl (Int.ofNat_lt.mp (And.left h0)))))
theorem a574 {x0 x1 x2 x3 x4 : Nat}  (h0 : ((x0 < x1) ∧ ((x0 < x2) ∧ (x3 = x4)))) : (((x0 : Nat) : Int) < ((x1 : Nat) : Int)) := (Int.ofNat_lt.mpr (lin [x0, x1] (.cons 1 (.p v0 c1) v1 O) (.p v0 c1) v1 rfl (And.left h0)))
theorem a576 {x0 x1 x2 x3 x4 : Nat}  (h0 : ((x0 < x2) ∧ ((x0 < x1) ∧ (x3 = x4)))) : (((x0 : Nat) : Int) < ((x1 : Nat) : Int)) := (Int.ofNat_lt.mpr (lin [x0, x1] (.cons 1 (.p v0 c1) v1 O) (.p v0 c1) v1 rfl (And.left (And.right h0))))
theorem a579 {x0 x1 : Nat}  (h0 : (((x1 + 1) + 1) ≤ x0)) : (0 < x0) := (lin [x1, x0] (.cons 1 (.p (.p v0 c1) c1) v1 O) (.p c0 c1) v1 rfl h0)
theorem a580 {x0 x1 : Nat}  (h0 : ((x1 + 2) ≤ x0)) : (0 < x0) := (lin [x1, x0] (.cons 1 (.p v0 c2) v1 O) (.p c0 c1) v1 rfl h0)
theorem a581 {x0 : Nat}  (h0 : (x0 ≤ 300)) : ((0 + (301 * x0)) ≤ 200000) := (Nat.le_of_not_lt fun u1 => (linF [x0] (.cons 301 v0 (.c 300) (.cons 1 (.p (.c 200000) c1) (.p c0 (.m 301 v0)) O)) rfl h0 u1))
theorem a582 {x0 : Nat}  (h0 : (x0 ≤ 1000)) : ((0 + x0) ≤ 10000) := (lin [x0] (.cons 1 v0 (.c 1000) O) (.p c0 v0) (.c 10000) rfl h0)
theorem a583 {x0 x1 : Nat}  (h0 : ((x0 + 2) ≤ x1)) : ((x0 + 1) ≤ (x1 - 1)) := (lin [x0, x1, (x1 - 1)] (.cons 1 (.p v0 c2) v1 (.cons 1 v1 (.p v2 c1) O)) (.p v0 c1) v2 rfl h0 (sbU x1 1))
theorem a584 {x0 x1 : Nat}  (h0 : (41 ≤ x1)) (h1 : (x0 ≤ 40)) : (x0 < x1) := (lin [x1, x0] (.cons 1 (.c 41) v0 (.cons 1 v1 (.c 40) O)) (.p v1 c1) v0 rfl h0 h1)
theorem a585 {x0 : Nat}  (h0 : (x0 ≤ 150)) : (x0 ≤ 1000) := (lin [x0] (.cons 1 v0 (.c 150) O) v0 (.c 1000) rfl h0)
theorem a586 {x0 x1 x2 : Nat}  (h0 : ((x0 + (301 * (x2 + 1))) ≤ 200000)) (h1 : (x1 < (x2 + 1))) : ((x0 + x1) ≤ 16777216) := (lin [x0, x2, x1] (.cons 1 (.p v0 (.m 301 (.p v1 c1))) (.c 200000) (.cons 1 (.p v2 c1) (.p v1 c1) O)) (.p v0 v2) (.c 16777216) rfl h0 h1)
theorem a587 {x0 : Nat}  (h0 : ((x0 + 1) ≤ 10000)) : (x0 ≤ 16777216) := (lin [x0] (.cons 1 (.p v0 c1) (.c 10000) O) v0 (.c 16777216) rfl h0)
theorem a588 {x0 x1 : Nat}  (h0 : ((x1 + 3) ≤ x0)) : (0 < x0) := (lin [x1, x0] (.cons 1 (.p v0 c3) v1 O) (.p c0 c1) v1 rfl h0)
theorem a589 {x0 x1 : Nat}  (h0 : ((x0 + 3) ≤ x1)) : ((x0 + 2) ≤ (x1 - 1)) := (lin [x0, x1, (x1 - 1)] (.cons 1 (.p v0 c3) v1 (.cons 1 v1 (.p v2 c1) O)) (.p v0 c2) v2 rfl h0 (sbU x1 1))
theorem a590 {x0 x1 : Nat}  (h0 : ((x1 + 3) ≤ x0)) : (0 < ((x0 - 1) - 1)) := (lin [x1, x0, (x0 - 1), ((x0 - 1) - 1)] (.cons 1 (.p v0 c3) v1 (.cons 1 v2 (.p v3 c1) (.cons 1 v1 (.p v2 c1) O))) (.p c0 c1) v3 rfl h0 (sbU (x0 - 1) 1) (sbU x0 1))
theorem a591 {x0 x1 : Nat}  (h0 : ((x1 + 3) ≤ x0)) : (0 < (x0 - 1)) := (lin [x1, x0, (x0 - 1)] (.cons 1 (.p v0 c3) v1 (.cons 1 v1 (.p v2 c1) O)) (.p c0 c1) v2 rfl h0 (sbU x0 1))
theorem a592 {x0 : Nat}   : ((min 1 x0) ≤ 1) := (lin [(min 1 x0)] (.cons 1 v0 c1 O) v0 c1 rfl (Nat.min_le_left 1 x0))
theorem a593 {x0 x1 x2 : Nat}  (h0 : ((x2 + 1) ≤ 300)) (h1 : (x1 < (x2 + 1))) : ((min x0 x1) ≤ 1000) := (lin [x2, x1, (min x0 x1)] (.cons 1 (.p v0 c1) (.c 300) (.cons 1 (.p v1 c1) (.p v0 c1) (.cons 1 v2 v1 O))) v2 (.c 1000) rfl h0 h1 (Nat.min_le_right x0 x1))
theorem a594 {x0 : Nat}  (h0 : (2 ≤ x0)) : (0 < (x0 - 1)) := (lin [x0, (x0 - 1)] (.cons 1 c2 v0 (.cons 1 v0 (.p v1 c1) O)) (.p c0 c1) v1 rfl h0 (sbU x0 1))
theorem a595 {x0 x1 : Nat}  (h0 : (((x0 + 1) + 1) ≤ x1)) : ((x0 + 1) ≤ (x1 - 1)) := (lin [x0, x1, (x1 - 1)] (.cons 1 (.p (.p v0 c1) c1) v1 (.cons 1 v1 (.p v2 c1) O)) (.p v0 c1) v2 rfl h0 (sbU x1 1))
theorem a596 {x0 x1 x2 x3 x4 : Nat}  (h0 : ((x0 + (301 * (x4 + 1))) ≤ 200000)) (h1 : ((x4 + 1) ≤ 300)) (h2 : (x2 < (x4 + 1))) (h3 : (x3 ≤ 1)) : ((((x0 + (min x1 x2)) + x3) + (301 * x4)) ≤ 200000) := (lin [x0, x4, x2, x3, (min x1 x2)] (.cons 1 (.p v0 (.m 301 (.p v1 c1))) (.c 200000) (.cons 1 (.p v1 c1) (.c 300) (.cons 1 (.p v2 c1) (.p v1 c1) (.cons 1 v3 c1 (.cons 1 v4 v2 O))))) (.p (.p (.p v0 v4) v3) (.m 301 v1)) (.c 200000) rfl h0 h1 h2 h3 (Nat.min_le_right x1 x2))
theorem a597 {x0 x1 x2 x3 x4 : Nat}  (h0 : ((x0 + x3) ≤ 10000)) (h1 : (x4 = (x1 + x2))) (h2 : (x4 ≤ x3)) : (((x0 + x1) + x2) ≤ 10000) := (lin [x0, x3, x1, x2, x4] (.cons 1 (.p v0 v1) (.c 10000) (.cons 1 (.p v2 v3) v4 (.cons 1 v4 v1 O))) (.p (.p v0 v2) v3) (.c 10000) rfl h0 (Nat.le_of_eq (Eq.symm h1)) h2)
theorem a598 {x0 x1 x2 : Nat}  (h0 : ((x0 + (301 * (x2 + 1))) ≤ 200000)) (h1 : (x1 ≤ 1000)) : ((x0 + x1) ≤ 16777216) := (lin [x0, x2, x1] (.cons 1 (.p v0 (.m 301 (.p v1 c1))) (.c 200000) (.cons 1 v2 (.c 1000) O)) (.p v0 v2) (.c 16777216) rfl h0 h1)
theorem a599 {x0 x1 x2 x3 : Nat}  (h0 : ((x0 + (301 * (x3 + 1))) ≤ 200000)) (h1 : (x1 ≤ 1000)) (h2 : (x2 ≤ 1)) : (((x0 + x1) + x2) ≤ 16777216) := (lin [x0, x3, x1, x2] (.cons 1 (.p v0 (.m 301 (.p v1 c1))) (.c 200000) (.cons 1 v2 (.c 1000) (.cons 1 v3 c1 O))) (.p (.p v0 v2) v3) (.c 16777216) rfl h0 h1 h2)
theorem a600 {x0 x1 : Nat}  (h0 : (x1 ≤ x0)) : (x0 = (x1 + (x0 - x1))) := (Nat.le_antisymm (lin [x0, (x0 - x1), x1] (.cons 1 v0 (.p v1 v2) O) v0 (.p v2 v1) rfl (sbU x0 x1)) (lin [(x0 - x1), x1, x0] (.cons 1 (.p v0 v1) v2 O) (.p v1 v0) v2 rfl (sbE (lin [x1, x0] (.cons 1 v0 v1 O) v0 v1 rfl h0))))
theorem a601 {x0 x1 : Nat}  (h0 : (x0 ≤ 40)) : ((x0 - x1) ≤ 40) := (lin [x0, (x0 - x1)] (.cons 1 v0 (.c 40) (.cons 1 v1 v0 O)) v1 (.c 40) rfl h0 (Nat.sub_le x0 x1))
theorem a602 {x0 x1 x2 x3 : Nat}  (h0 : (x0 = x2)) (h1 : (x1 ≤ 10000)) (h2 : (x2 ≤ (min x3 x1))) : (x0 ≤ 10000) := (lin [x0, x2, x1, (min x3 x1)] (.cons 1 v0 v1 (.cons 1 v2 (.c 10000) (.cons 1 v3 v2 (.cons 1 v1 v3 O)))) v0 (.c 10000) rfl (Nat.le_of_eq h0) h1 (Nat.min_le_right x3 x1) h2)
theorem a603 {x0 x1 : Nat}  (h0 : (x0 ≤ x1)) : ((min x0 x1) = x0) := (Nat.le_antisymm (lin [(min x0 x1), x0] (.cons 1 v0 v1 O) v0 v1 rfl (Nat.min_le_left x0 x1)) (lin [x0, (min x0 x1)] (.cons 1 v0 v1 O) v0 v1 rfl (minA (lin [x0, x1] (.cons 1 v0 v1 O) v0 v1 rfl h0))))
theorem a604 {x0 x1 x2 : Nat}  (h0 : (x0 ≤ (min x2 x1))) (h1 : (x1 ≤ 10000)) : (x0 ≤ 10000) := (lin [(min x2 x1), x1, x0] (.cons 1 v0 v1 (.cons 1 v2 v0 (.cons 1 v1 (.c 10000) O))) v2 (.c 10000) rfl (Nat.min_le_right x2 x1) h0 h1)
theorem a606 {x0 x1 : Nat}  (h0 : (x1 ≤ 150)) : ((min x0 x1) ≤ 150) := (lin [x1, (min x0 x1)] (.cons 1 v0 (.c 150) (.cons 1 v1 v0 O)) v1 (.c 150) rfl h0 (Nat.min_le_right x0 x1))
theorem a607 {x0 x1 x2 x3 : Nat}  (h0 : ((x1 + 1) ≤ 300)) (h1 : (x0 = x3)) (h2 : (x2 < (x1 + 1))) (h3 : (x3 ≤ x2)) : (x0 ≤ 1000) := (lin [x1, x0, x3, x2] (.cons 1 (.p v0 c1) (.c 300) (.cons 1 v1 v2 (.cons 1 (.p v3 c1) (.p v0 c1) (.cons 1 v2 v3 O)))) v1 (.c 1000) rfl h0 (Nat.le_of_eq h1) h2 h3)
theorem a608 {x0 x1 : Nat}  (h0 : (x0 ≤ 1000)) : ((x0 - x1) ≤ 16777216) := (lin [x0, (x0 - x1)] (.cons 1 v0 (.c 1000) (.cons 1 v1 v0 O)) v1 (.c 16777216) rfl h0 (Nat.sub_le x0 x1))
theorem a609 {x0 x1 : Nat}  (h0 : (x0 ≤ 1000)) : ((x0 - (x1 + 1)) ≤ 1000) := (lin [x0, (x0 - (x1 + 1))] (.cons 1 v0 (.c 1000) (.cons 1 v1 v0 O)) v1 (.c 1000) rfl h0 (Nat.sub_le x0 (x1 + 1)))
theorem a612 {x0 x1 : Nat}  (h0 : (((x1 + 1) + 1) ≤ x0)) : (0 < (x0 - 1)) := (lin [x1, x0, (x0 - 1)] (.cons 1 (.p (.p v0 c1) c1) v1 (.cons 1 v1 (.p v2 c1) O)) (.p c0 c1) v2 rfl h0 (sbU x0 1))
theorem a613 {x0 : Nat}  (h0 : ((((x0 : Nat) : Int) + (1 : Int)) = (0 : Int))) : False := (linF [x0] (.cons 1 (.p v0 c1) c0 O) rfl (Nat.le_of_eq (Int.ofNat_inj.mp h0)))
theorem a614 {x0 x1 : Nat}  (h0 : (((x1 + 1) + 2) ≤ x0)) : (0 < x0) := (lin [x1, x0] (.cons 1 (.p (.p v0 c1) c2) v1 O) (.p c0 c1) v1 rfl h0)
theorem a615 {x0 x1 x2 x3 : Nat}  (h0 : ((x2 ≤ x1) ∧ (x2 ≤ x3))) (h1 : (x0 = x2)) : ((min x0 x1) = x0) := (Nat.le_antisymm (lin [(min x0 x1), x0] (.cons 1 v0 v1 O) v0 v1 rfl (Nat.min_le_left x0 x1)) (lin [x0, (min x0 x1)] (.cons 1 v0 v1 O) v0 v1 rfl (minA (lin [x2, x1, x0] (.cons 1 v0 v1 (.cons 1 v2 v0 O)) v2 v1 rfl (And.left h0) (Nat.le_of_eq h1)))))
theorem a616 {x0 x1 : Nat}  (h0 : ((((x0 : Nat) : Int) == (0 : Int)) = true)) (h1 : (2 ≤ x1)) (h2 : (x0 = x1)) : False := (linF [x0, x1] (.cons 1 v0 c0 (.cons 1 c2 v1 (.cons 1 v1 v0 O))) rfl (Nat.le_of_eq (Int.ofNat_inj.mp (eq_of_beq h0))) h1 (Nat.le_of_eq (Eq.symm h2)))
theorem a617 {x0 x1 : Nat}  (h0 : ((((x0 : Nat) : Int) == (1 : Int)) = true)) (h1 : (2 ≤ x1)) (h2 : (x0 = x1)) : False := (linF [x0, x1] (.cons 1 v0 c1 (.cons 1 c2 v1 (.cons 1 v1 v0 O))) rfl (Nat.le_of_eq (Int.ofNat_inj.mp (eq_of_beq h0))) h1 (Nat.le_of_eq (Eq.symm h2)))
theorem a618 {x0 x1 : Nat}  (h0 : ((x1 + 1) ≤ 300)) (h1 : (x0 < (x1 + 1))) : (x0 ≤ 1000) := (lin [x1, x0] (.cons 1 (.p v0 c1) (.c 300) (.cons 1 (.p v1 c1) (.p v0 c1) O)) v1 (.c 1000) rfl h0 h1)
theorem a619 {x0 x1 : Nat}  (h0 : (((x1 + 1) + 2) ≤ x0)) : (0 < (x0 - 1)) := (lin [x1, x0, (x0 - 1)] (.cons 1 (.p (.p v0 c1) c2) v1 (.cons 1 v1 (.p v2 c1) O)) (.p c0 c1) v2 rfl h0 (sbU x0 1))
theorem a620 {x0 x1 x2 x3 x4 : Nat}  (h0 : ((x1 + 1) ≤ 300)) (h1 : ((x3 ≤ x4) ∧ (x3 ≤ x2))) (h2 : (x0 = x3)) (h3 : (x2 < (x1 + 1))) : (x0 ≤ 10000) := (lin [x1, x3, x2, x0] (.cons 1 (.p v0 c1) (.c 300) (.cons 1 v1 v2 (.cons 1 v3 v1 (.cons 1 (.p v2 c1) (.p v0 c1) O)))) v3 (.c 10000) rfl h0 (And.right h1) (Nat.le_of_eq h2) h3)
theorem a621 {x0 x1 x2 x3 x4 x5 : Nat}  (h0 : ((x1 + 1) ≤ 300)) (h1 : ((x4 ≤ x5) ∧ (x4 ≤ x2))) (h2 : (x0 = x3)) (h3 : (x2 < (x1 + 1))) (h4 : (x3 = x4)) : (x0 < (2 ^ 62)) := (lin [x1, x4, x2, x0, x3] (.cons 1 (.p v0 c1) (.c 300) (.cons 1 v1 v2 (.cons 1 v3 v4 (.cons 1 (.p v2 c1) (.p v0 c1) (.cons 1 v4 v1 O))))) (.p v3 c1) (.c (2 ^ 62)) rfl h0 (And.right h1) (Nat.le_of_eq h2) h3 (Nat.le_of_eq h4))
theorem a622 {x0 x1 : Nat}  (h0 : (((x0 + 1) + 2) ≤ x1)) : ((x0 + 2) ≤ (x1 - 1)) := (lin [x0, x1, (x1 - 1)] (.cons 1 (.p (.p v0 c1) c2) v1 (.cons 1 v1 (.p v2 c1) O)) (.p v0 c2) v2 rfl h0 (sbU x1 1))
theorem a623 {x0 x1 x2 : Nat}  (h0 : (x1 ≤ x2)) (h1 : (x2 ≤ 1000)) : ((min x0 x1) ≤ 16777216) := (lin [x1, x2, (min x0 x1)] (.cons 1 v0 v1 (.cons 1 v1 (.c 1000) (.cons 1 v2 v0 O))) v2 (.c 16777216) rfl h0 h1 (Nat.min_le_right x0 x1))
theorem a624 {x0 x1 : Nat}  (h0 : (x0 ≤ x1)) (h1 : (x1 ≤ 1000)) : (x0 ≤ 16777216) := (lin [x0, x1] (.cons 1 v0 v1 (.cons 1 v1 (.c 1000) O)) v0 (.c 16777216) rfl h0 h1)
end Mine

set_option autoImplicit false
set_option maxHeartbeats 4000000
set_option maxRecDepth 100000
namespace Mine
open PySem PyProof.Rows
abbrev KRow := PyProof.Rows.Keyed
def kk (K : KRow → Int) (a : Array KRow) (i : Nat) : Int := match a[i]? with
  | some x => K x
  | none => 0
def AllS (S : KRow → Prop) (a : Array KRow) : Prop := ∀ (i : Nat) (x : KRow), a[i]? = some x → S x
def SortedOn (K : KRow → Int) (a : Array KRow) (lo hi : Nat) : Prop := ∀ i j, lo ≤ i → i ≤ j → j < hi → kk K a i ≤ kk K a j
section
variable {M : Model} {A : Around} {E : Value → Shared → Prop} {s : Shared} {κ : SortKind} {S : KRow → Prop} {K : KRow → Int}
def LtOk (M : Model) (A : Around) (E : Value → Shared → Prop) (s : Shared) (κ : SortKind) (S : KRow → Prop) (K : KRow → Int) : Prop :=
  ∀ (x y : KRow) (st : SortSt) (Q : Option Bool → SortSt → Prop), S x → S y → PyProof.Rows.kindOf st = κ → Q (some (decide (K x < K y))) st → PyProof.Rows.wpS M A E s (lt' x y) Q st
theorem elem_ok {a : Array KRow} {i : Nat} {st : SortSt} {Q : KRow → SortSt → Prop} (hi : i < a.size) (h : ∀ x, a[i]? = some x → kk K a i = K x → Q x st) : PyProof.Rows.wpS M A E s (elem' a i) Q st := by
  rw [elem'_eq]
  have e : a[i]? = some a[i] := getElem?_pos a i hi
  rw [e]
  exact wpS_pure (h _ e (by unfold kk; rw [e]))
def gallop' : Bool → KRow → Array KRow → Nat → Nat → Nat → StateT SortSt Sem (Option Nat) := sortPriv% PySem.Builtin.gallop
theorem beyond_ok {left : Bool} {key : KRow} {arr : Array KRow} {base i : Nat} {st : SortSt} {Q : Option Bool → SortSt → Prop} (L : LtOk M A E s κ S K) (hk : S key) (hS : AllS S arr) (hst : PyProof.Rows.kindOf st = κ) (hi : base + i < arr.size)
    (h : Q (some (decide (kk K arr (base + i) < K key + (if left then 0 else 1)))) st) :
    PyProof.Rows.wpS M A E s (do let x ← elem' arr (base + i); if left then lt' x key else return (← lt' key x).map (!·)) Q st := by
  refine wpS_bind (elem_ok (K := K) hi fun x hx hkx => ?_)
  rw [hkx] at h
  cases left with
  | true => simp only [if_true, Int.add_zero] at h ⊢; exact L _ _ _ _ (hS _ _ hx) hk hst h
  | false =>
    simp only [Bool.false_eq_true, if_false] at h ⊢
    refine wpS_bind (L _ _ _ _ hk (hS _ _ hx) hst (wpS_pure ?_))
    have e : (!(decide (K key < K x))) = decide (K x < K key + 1) := by
      by_cases hc : K key < K x
      · rw [decide_eq_true hc, decide_eq_false (by (exact a56 hc))]; rfl
      · rw [decide_eq_false hc, decide_eq_true (by (exact a58 hc))]; rfl
    show Q (Option.map _ (some _)) st
    rw [Option.map_some, e]
    exact h
theorem gallop_ok {left : Bool} {key : KRow} {arr : Array KRow} {base n hint : Nat} {st : SortSt} {Q : Option Nat → SortSt → Prop} (L : LtOk M A E s κ S K) (hk : S key) (hS : AllS S arr) (hst : PyProof.Rows.kindOf st = κ) (hsz : base + n ≤ arr.size) (hh : hint < n) (hs : SortedOn K arr base (base + n))
    (h : ∀ k, k ≤ n → (∀ i, i < k → kk K arr (base + i) < K key + (if left then 0 else 1)) → (∀ i, k ≤ i → i < n → ¬ kk K arr (base + i) < K key + (if left then 0 else 1)) → Q (some k) st) :
    PyProof.Rows.wpS M A E s (gallop' left key arr base n hint) Q st := by
  unfold gallop'
  generalize hT : K key + (if left then (0 : Int) else 1) = T at h
  have mono : ∀ i j, i ≤ j → j < n → kk K arr (base + j) < T → kk K arr (base + i) < T := fun i j hij hj hb => Int.lt_of_le_of_lt (hs (base + i) (base + j) (by (exact a54 )) (by (exact a55 hij)) (by (exact a57 hj))) hb
  refine wpS_bind (beyond_ok L hk hS hst (by (exact a59 hsz hh)) ?_)
  rw [hT]
  dsimp only
  by_cases hr : kk K arr (base + hint) < T
  · rw [decide_eq_true hr]
    simp only [if_true]
    refine wpS_bind (wpS_mono (wpS_forRange (I := fun x c st' => st = st' ∧ ∃ lastofs ofs, c = (none, lastofs, ofs) ∧ lastofs < ofs ∧ x + 1 ≤ ofs ∧ lastofs < n - hint ∧ kk K arr (base + (hint + lastofs)) < T)
      (Q := fun c st' => st = st' ∧ ∃ lastofs ofs, c = (none, lastofs, ofs) ∧ lastofs < ofs ∧ lastofs < n - hint ∧ kk K arr (base + (hint + lastofs)) < T ∧ (n - hint ≤ ofs ∨ ¬ kk K arr (base + (hint + ofs)) < T)) ?_ ?_ ⟨rfl, 0, 1, rfl, by (exact a60 ), by (exact a61 ), by (exact a62 hh), hr⟩) ?_)
    · rintro x c st' _ hx ⟨rfl, lastofs, ofs, rfl, g1, g2, g3, g4⟩
      dsimp only
      by_cases hge : ofs ≥ n - hint
      · rw [if_pos hge]; exact wpS_pure ⟨rfl, _, _, rfl, g1, g3, g4, .inl hge⟩
      · rw [if_neg hge]
        refine wpS_bind (beyond_ok L hk hS hst (by (exact a63 hsz hh hge)) ?_)
        rw [hT]
        dsimp only
        by_cases hm : kk K arr (base + (hint + ofs)) < T
        · rw [decide_eq_true hm, if_neg (by decide)]
          exact wpS_pure ⟨rfl, _, _, rfl, by (exact a64 ), by (exact a66 g2), by (exact a67 hge), hm⟩
        · rw [decide_eq_false hm, if_pos (by decide)]
          exact wpS_pure ⟨rfl, _, _, rfl, g1, g3, g4, .inr hm⟩
    · rintro c st' ⟨rfl, lastofs, ofs, rfl, g1, g2, g3, g4⟩
      exact ⟨rfl, _, _, rfl, g1, g3, g4, .inl (by (exact a70 g2 hh))⟩
    · rintro c st' ⟨rfl, lastofs, ofs, rfl, g1, g2, g3, g4⟩
      dsimp only
      have low : ∀ i, i < hint + lastofs + 1 → kk K arr (base + i) < T := fun i hi' => mono i (hint + lastofs) (by (exact a71 hi')) (by (exact a72 hh g2)) g3
      have high : ∀ i, hint + min ofs (n - hint) ≤ i → i < n → ¬ kk K arr (base + i) < T := fun i h6 h7 hb => by
        rcases g4 with g4 | g4
        · (exact a73 g4 h6 h7)
        · exact g4 (mono _ i (by (exact a74 h6 h7)) h7 hb)
      refine wpS_bind (wpS_mono (wpS_forRange (I := fun x c st' => st = st' ∧ ∃ lo hi, c = (none, lo, hi) ∧ lo ≤ hi ∧ hi ≤ n ∧ hi - lo ≤ n - x ∧ (∀ i, i < lo → kk K arr (base + i) < T) ∧ (∀ i, hi ≤ i → i < n → ¬ kk K arr (base + i) < T))
        (Q := fun c st' => st = st' ∧ ∃ lo hi, c = (none, lo, hi) ∧ lo = hi ∧ hi ≤ n ∧ (∀ i, i < lo → kk K arr (base + i) < T) ∧ (∀ i, hi ≤ i → i < n → ¬ kk K arr (base + i) < T)) ?_ ?_ ⟨rfl, _, _, rfl, by (exact a75 g2 g1), by (exact a78 hh), by (exact a80 hh), low, high⟩) ?_)
      · rintro x c st' _ hx ⟨rfl, lo, hi, rfl, h1, h2, h3, h4, h5⟩
        dsimp only
        by_cases hge : lo ≥ hi
        · rw [if_pos hge]; exact wpS_pure ⟨rfl, lo, hi, rfl, by (exact a88 h1 hge), h2, h4, h5⟩
        · rw [if_neg hge]
          refine wpS_bind (beyond_ok L hk hS hst (by (exact a91 hsz h2 hge)) ?_)
          rw [hT]
          dsimp only
          by_cases hm : kk K arr (base + (lo + (hi - lo) / 2)) < T
          · rw [decide_eq_true hm, if_pos rfl]
            exact wpS_pure ⟨rfl, _, _, rfl, by (exact a94 hge), h2, by (exact a96 h3 hx), fun i hi' => mono i (lo + (hi - lo) / 2) (by (exact a97 hi')) (by (exact a99 h2 hge)) hm, h5⟩
          · rw [decide_eq_false hm, if_neg (by decide)]
            exact wpS_pure ⟨rfl, _, _, rfl, by (exact a101 ), by (exact a103 h2 hge), by (exact a107 h3 hx hge), h4, fun i h6 h7 hb => hm (mono _ i h6 h7 hb)⟩
      · rintro c st' ⟨rfl, lo, hi, rfl, h1, h2, h3, h4, h5⟩
        exact ⟨rfl, lo, hi, rfl, by (exact a109 h3 h1), h2, h4, h5⟩
      · rintro c st' ⟨rfl, lo, hi, rfl, rfl, h2, h4, h5⟩
        exact wpS_pure (h lo h2 h4 h5)
  · rw [decide_eq_false hr]
    simp only [Bool.false_eq_true, if_false]
    refine wpS_bind (wpS_mono (wpS_forRange (I := fun x c st' => st = st' ∧ ∃ lastofs ofs, c = (none, lastofs, ofs) ∧ lastofs < ofs ∧ x + 1 ≤ ofs ∧ lastofs ≤ hint ∧ ¬ kk K arr (base + (hint - lastofs)) < T)
      (Q := fun c st' => st = st' ∧ ∃ lastofs ofs, c = (none, lastofs, ofs) ∧ lastofs < ofs ∧ lastofs ≤ hint ∧ ¬ kk K arr (base + (hint - lastofs)) < T ∧ (hint + 1 ≤ ofs ∨ (ofs ≤ hint ∧ kk K arr (base + (hint - ofs)) < T))) ?_ ?_ ⟨rfl, 0, 1, rfl, by (exact a60 ), by (exact a61 ), by (exact a111 ), hr⟩) ?_)
    · rintro x c st' _ hx ⟨rfl, lastofs, ofs, rfl, g1, g2, g3, g4⟩
      dsimp only
      by_cases hge : ofs ≥ hint + 1
      · rw [if_pos hge]; exact wpS_pure ⟨rfl, _, _, rfl, g1, g3, g4, .inl hge⟩
      · rw [if_neg hge]
        refine wpS_bind (beyond_ok L hk hS hst (by (exact a117 hsz hh)) ?_)
        rw [hT]
        dsimp only
        by_cases hm : kk K arr (base + (hint - ofs)) < T
        · rw [decide_eq_true hm, if_pos rfl]
          exact wpS_pure ⟨rfl, _, _, rfl, g1, g3, g4, .inr ⟨by (exact a122 hge), hm⟩⟩
        · rw [decide_eq_false hm, if_neg (by decide)]
          exact wpS_pure ⟨rfl, _, _, rfl, by (exact a64 ), by (exact a66 g2), by (exact a122 hge), hm⟩
    · rintro c st' ⟨rfl, lastofs, ofs, rfl, g1, g2, g3, g4⟩
      exact ⟨rfl, _, _, rfl, g1, g3, g4, .inl (by (exact a154 g2 hh))⟩
    · rintro c st' ⟨rfl, lastofs, ofs, rfl, g1, g2, g3, g4⟩
      dsimp only
      have low : ∀ i, i < hint + 1 - min ofs (hint + 1) → kk K arr (base + i) < T := fun i hi' => by
        rcases g4 with g4 | ⟨g4, g5⟩
        · (exact (a157 g4 hi').elim)
        · exact mono i (hint - ofs) (by (exact a160 hi' g4)) (by (exact a162 hh)) g5
      have high : ∀ i, hint - lastofs ≤ i → i < n → ¬ kk K arr (base + i) < T := fun i h6 h7 hb => g3 (mono _ i h6 h7 hb)
      refine wpS_bind (wpS_mono (wpS_forRange (I := fun x c st' => st = st' ∧ ∃ lo hi, c = (none, lo, hi) ∧ lo ≤ hi ∧ hi ≤ n ∧ hi - lo ≤ n - x ∧ (∀ i, i < lo → kk K arr (base + i) < T) ∧ (∀ i, hi ≤ i → i < n → ¬ kk K arr (base + i) < T))
        (Q := fun c st' => st = st' ∧ ∃ lo hi, c = (none, lo, hi) ∧ lo = hi ∧ hi ≤ n ∧ (∀ i, i < lo → kk K arr (base + i) < T) ∧ (∀ i, hi ≤ i → i < n → ¬ kk K arr (base + i) < T)) ?_ ?_ ⟨rfl, _, _, rfl, by (exact a169 g4 g1), by (exact a173 hh), by (exact a179 hh), low, high⟩) ?_)
      · rintro x c st' _ hx ⟨rfl, lo, hi, rfl, h1, h2, h3, h4, h5⟩
        dsimp only
        by_cases hge : lo ≥ hi
        · rw [if_pos hge]; exact wpS_pure ⟨rfl, lo, hi, rfl, by (exact a88 h1 hge), h2, h4, h5⟩
        · rw [if_neg hge]
          refine wpS_bind (beyond_ok L hk hS hst (by (exact a91 hsz h2 hge)) ?_)
          rw [hT]
          dsimp only
          by_cases hm : kk K arr (base + (lo + (hi - lo) / 2)) < T
          · rw [decide_eq_true hm, if_pos rfl]
            exact wpS_pure ⟨rfl, _, _, rfl, by (exact a94 hge), h2, by (exact a96 h3 hx), fun i hi' => mono i (lo + (hi - lo) / 2) (by (exact a97 hi')) (by (exact a99 h2 hge)) hm, h5⟩
          · rw [decide_eq_false hm, if_neg (by decide)]
            exact wpS_pure ⟨rfl, _, _, rfl, by (exact a101 ), by (exact a103 h2 hge), by (exact a107 h3 hx hge), h4, fun i h6 h7 hb => hm (mono _ i h6 h7 hb)⟩
      · rintro c st' ⟨rfl, lo, hi, rfl, h1, h2, h3, h4, h5⟩
        exact ⟨rfl, lo, hi, rfl, by (exact a109 h3 h1), h2, h4, h5⟩
      · rintro c st' ⟨rfl, lo, hi, rfl, rfl, h2, h4, h5⟩
        exact wpS_pure (h lo h2 h4 h5)
end
end Mine

set_option autoImplicit false
set_option maxRecDepth 100000
namespace Mine
open PySem PyProof.Rows
section
variable {K : KRow → Int} {a b out : List KRow} {ia ib k : Nat}
def Asc (K : KRow → Int) (l : List KRow) : Prop := l.Pairwise fun x y => K x ≤ K y
theorem Asc.take (h : Asc K a) (n : Nat) : Asc K (a.take n) := h.sublist (List.take_sublist _ _)
theorem Asc.drop (h : Asc K a) (n : Nat) : Asc K (a.drop n) := h.sublist (List.drop_sublist _ _)
theorem Asc.cut (h : Asc K a) (n : Nat) {x y : KRow} (hx : x ∈ a.take n) (hy : y ∈ a.drop n) : K x ≤ K y := by
  have : Asc K (a.take n ++ a.drop n) := by rw [List.take_append_drop]; exact h
  exact (List.pairwise_append.mp this).2.2 x hx y hy
structure Mrg (K : KRow → Int) (a b out : List KRow) (ia ib : Nat) : Prop where
  perm : out.Perm (a.take ia ++ b.take ib)
  sorted : Asc K out
  low : ∀ x ∈ out, ∀ y, y ∈ a.drop ia ∨ y ∈ b.drop ib → K x ≤ K y
theorem Mrg.swap (h : Mrg K a b out ia ib) : Mrg K b a out ib ia := ⟨h.perm.trans List.perm_append_comm, h.sorted, fun x hx y hy => h.low x hx y hy.symm⟩
theorem mem_drop_add {x : KRow} {n m : Nat} (h : x ∈ a.drop (n + m)) : x ∈ a.drop n := by
  rw [← List.drop_drop] at h; exact List.mem_of_mem_drop h
theorem Mrg.addB (h : Mrg K a b out ia ib) (hb : Asc K b) (k : Nat) (hc : ∀ y ∈ (b.drop ib).take k, ∀ z ∈ a.drop ia, K y ≤ K z) : Mrg K a b (out ++ (b.drop ib).take k) ia (ib + k) := by
  refine ⟨?_, ?_, ?_⟩
  · refine (h.perm.append_right _).trans ?_
    rw [List.append_assoc, List.take_add]
  · refine List.pairwise_append.mpr ⟨h.sorted, (hb.drop ib).take k, fun x hx y hy => h.low x hx y (.inr (List.mem_of_mem_take hy))⟩
  · intro x hx y hy
    rcases List.mem_append.mp hx with hx | hx
    · exact h.low x hx y (hy.imp id mem_drop_add)
    · rcases hy with hy | hy
      · exact hc x hx y hy
      · rw [← List.drop_drop] at hy
        exact (hb.drop ib).cut k hx hy
theorem Mrg.addA (h : Mrg K a b out ia ib) (ha : Asc K a) (k : Nat) (hc : ∀ y ∈ (a.drop ia).take k, ∀ z ∈ b.drop ib, K y ≤ K z) : Mrg K a b (out ++ (a.drop ia).take k) (ia + k) ib := (h.swap.addB ha k hc).swap
theorem Mrg.all (h : Mrg K a b out ia ib) (ha : Asc K a) (hb : Asc K b) (hc : ∀ y ∈ b.drop ib, ∀ z ∈ a.drop ia, K y ≤ K z) : (out ++ b.drop ib ++ a.drop ia).Perm (a ++ b) ∧ Asc K (out ++ b.drop ib ++ a.drop ia) := by
  have h1 := h.addB hb (b.drop ib).length (by rw [List.take_length]; exact hc)
  rw [List.take_length] at h1
  have h2 := h1.addA ha (a.drop ia).length (by rw [List.take_length]; intro y _ z hz; rw [List.drop_of_length_le (by simp; (exact a65 ))] at hz; cases hz)
  rw [List.take_length] at h2
  refine ⟨?_, h2.sorted⟩
  have := h2.perm
  rwa [List.take_of_length_le (by simp; (exact a65 )), List.take_of_length_le (by simp; (exact a65 ))] at this
theorem Mrg.allA (h : Mrg K a b out ia ib) (ha : Asc K a) (hb : Asc K b) (hc : ∀ y ∈ a.drop ia, ∀ z ∈ b.drop ib, K y ≤ K z) : (out ++ a.drop ia ++ b.drop ib).Perm (a ++ b) ∧ Asc K (out ++ a.drop ia ++ b.drop ib) := by
  obtain ⟨x, y⟩ := h.swap.all hb ha hc
  exact ⟨x.trans List.perm_append_comm, y⟩
structure Mrh (K : KRow → Int) (a b r : List KRow) (na nb : Nat) : Prop where
  perm : r.Perm (a.drop na ++ b.drop nb)
  sorted : Asc K r
  high : ∀ x ∈ r, ∀ y, y ∈ a.take na ∨ y ∈ b.take nb → K y ≤ K x
variable {r : List KRow} {na nb : Nat}
theorem Mrh.swap (h : Mrh K a b r na nb) : Mrh K b a r nb na := ⟨h.perm.trans List.perm_append_comm, h.sorted, fun x hx y hy => h.high x hx y hy.symm⟩
theorem drop_split (l : List KRow) {k n : Nat} (h : k ≤ n) : l.drop k = (l.take n).drop k ++ l.drop n := by
  have : (l.take n ++ l.drop n).drop k = _ := List.drop_append
  rw [List.take_append_drop] at this
  rw [this]
  by_cases hl : n ≤ l.length
  · rw [List.length_take, Nat.min_eq_left hl, show k - n = 0 by (exact a68 h), List.drop_zero]
  · rw [List.drop_of_length_le (l := l) (i := n) (by (exact a69 hl))]; simp
theorem Mrh.addA (h : Mrh K a b r na nb) (ha : Asc K a) (k : Nat) (hk : k ≤ na) (hc : ∀ y ∈ (a.take na).drop k, ∀ z ∈ b.take nb, K z ≤ K y) : Mrh K a b ((a.take na).drop k ++ r) k nb := by
  refine ⟨?_, ?_, ?_⟩
  · rw [drop_split a hk, List.append_assoc]
    exact h.perm.append_left _
  · exact List.pairwise_append.mpr ⟨(ha.take na).drop k, h.sorted, fun x hx y hy => h.high y hy x (.inl (List.mem_of_mem_drop hx))⟩
  · intro x hx y hy
    have hta : ∀ {z}, z ∈ a.take k → z ∈ a.take na := fun hz => by
      rw [show a.take k = (a.take na).take k by rw [List.take_take, Nat.min_eq_left hk]] at hz
      exact List.mem_of_mem_take hz
    rcases List.mem_append.mp hx with hx | hx
    · rcases hy with hy | hy
      · have hy' : y ∈ (a.take na).take k := by rw [List.take_take, Nat.min_eq_left hk]; exact hy
        exact (ha.take na).cut k hy' hx
      · exact hc x hx y hy
    · exact h.high x hx y (hy.imp hta id)
theorem Mrh.addB (h : Mrh K a b r na nb) (hb : Asc K b) (k : Nat) (hk : k ≤ nb) (hc : ∀ y ∈ (b.take nb).drop k, ∀ z ∈ a.take na, K z ≤ K y) : Mrh K a b ((b.take nb).drop k ++ r) na k := (h.swap.addA hb k hk hc).swap
theorem Mrh.all (h : Mrh K a b r na nb) (ha : Asc K a) (hb : Asc K b) (hc : ∀ y ∈ a.take na, ∀ z ∈ b.take nb, K y ≤ K z) : (a.take na ++ b.take nb ++ r).Perm (a ++ b) ∧ Asc K (a.take na ++ b.take nb ++ r) := by
  have h1 := h.addB hb 0 (Nat.zero_le _) (by rw [List.drop_zero]; exact fun y hy z hz => hc z hz y hy)
  have h2 := h1.addA ha 0 (Nat.zero_le _) (by rw [List.take_zero]; intro _ _ z hz; cases hz)
  simp only [List.drop_zero] at h2
  rw [← List.append_assoc] at h2
  exact ⟨by simpa using h2.perm, h2.sorted⟩
theorem Mrh.allB (h : Mrh K a b r na nb) (ha : Asc K a) (hb : Asc K b) (hc : ∀ y ∈ b.take nb, ∀ z ∈ a.take na, K y ≤ K z) : (b.take nb ++ a.take na ++ r).Perm (a ++ b) ∧ Asc K (b.take nb ++ a.take na ++ r) := by
  obtain ⟨x, y⟩ := h.swap.all hb ha hc
  exact ⟨x.trans List.perm_append_comm, y⟩
end
end Mine

set_option autoImplicit false
set_option maxHeartbeats 4000000
set_option maxRecDepth 100000
namespace Mine
open PySem PyProof.Rows
section
variable {M : Model} {A : Around} {E : Value → Shared → Prop} {s : Shared} {κ : SortKind} {S : KRow → Prop} {K : KRow → Int}
def mergeLo' : Array KRow → Array KRow → StateT SortSt Sem (Array KRow) := sortPriv% PySem.Builtin.mergeLo
def mergeHi' : Array KRow → Array KRow → StateT SortSt Sem (Array KRow) := sortPriv% PySem.Builtin.mergeHi
theorem wpS_ite {α : Type} {σ : Type} {c : Prop} [Decidable c] {t e : StateT σ Sem α} {Q : α → σ → Prop} {st : σ} (h1 : c → PyProof.Rows.wpS M A E s t Q st) (h2 : ¬ c → PyProof.Rows.wpS M A E s e Q st) : PyProof.Rows.wpS M A E s (if c then t else e) Q st := by
  split
  · exact h1 ‹_›
  · exact h2 ‹_›
theorem wpS_opq {α σ : Type} {m : StateT σ Sem α} {Q : α → σ → Prop} {st : σ} (P : (α → σ → Prop) → Prop) (h0 : P Q) (h : ∀ Q', P Q' → PyProof.Rows.wpS M A E s m Q' st) : PyProof.Rows.wpS M A E s m Q st := h Q h0
def SameG (st st' : SortSt) : Prop := ∃ g, st' = SortSt.mk' (PyProof.Rows.kindOf st) (arrOf st) (pendingOf st) g (failedOf st)
theorem SameG.refl (st : SortSt) : SameG st st := ⟨gallopOf st, rfl⟩
theorem SameG.set {st st' : SortSt} (h : SameG st st') (g : Nat) : SameG st (SortSt.mk' (PyProof.Rows.kindOf st') (arrOf st') (pendingOf st') g (failedOf st')) := by
  obtain ⟨g', rfl⟩ := h; exact ⟨g, rfl⟩
theorem SameG.kind {st st' : SortSt} (h : SameG st st') : PyProof.Rows.kindOf st' = PyProof.Rows.kindOf st := by obtain ⟨g', rfl⟩ := h; rfl
theorem beq_le {m n : Nat} (h : (m == n) = true) : n ≤ m := by simp at h; (exact a76 h)
theorem mem_drop_iff {a : Array KRow} {n : Nat} {z : KRow} : z ∈ a.toList.drop n ↔ ∃ i, a[n + i]? = some z := by
  rw [List.mem_iff_getElem?]
  simp only [List.getElem?_drop, Array.getElem?_toList]
theorem mem_block_iff {a : Array KRow} {n k : Nat} {z : KRow} : z ∈ (a.toList.drop n).take k ↔ ∃ i, i < k ∧ a[n + i]? = some z := by
  rw [List.mem_iff_getElem?]
  constructor
  · rintro ⟨i, h⟩
    rw [List.getElem?_take] at h
    split at h
    · rename_i hi; exact ⟨i, hi, by simpa [List.getElem?_drop] using h⟩
    · cases h
  · rintro ⟨i, hi, h⟩
    exact ⟨i, by rw [List.getElem?_take, if_pos hi]; simpa [List.getElem?_drop] using h⟩
theorem kk_of {a : Array KRow} {i : Nat} {x : KRow} (h : a[i]? = some x) : kk K a i = K x := by unfold kk; rw [h]
theorem size_of {a : Array KRow} {i : Nat} {x : KRow} (h : a[i]? = some x) : i < a.size := by
  rw [Array.getElem?_eq_some_iff] at h; exact h.1
theorem asc_at {a : Array KRow} (h : Asc K a.toList) {i j : Nat} {x y : KRow} (hij : i ≤ j) (hx : a[i]? = some x) (hy : a[j]? = some y) : K x ≤ K y := by
  by_cases e : i = j
  · subst e; rw [hx] at hy; cases hy; exact Int.le_refl _
  · have hi := size_of hx
    have hj := size_of hy
    have := List.pairwise_iff_getElem.mp h i j (by simpa using hi) (by simpa using hj) (by (exact a77 hij e))
    have e1 : a.toList[i]'(by simpa using hi) = x := by
      have := (Array.getElem?_eq_some_iff.mp hx).2; simpa using this
    have e2 : a.toList[j]'(by simpa using hj) = y := by
      have := (Array.getElem?_eq_some_iff.mp hy).2; simpa using this
    rw [e1, e2] at this; exact this
theorem asc_on {a : Array KRow} (h : Asc K a.toList) {lo hi : Nat} (hh : hi ≤ a.size) : SortedOn K a lo hi := fun i j _ hij hj => by
  have e1 : a[i]? = some a[i] := getElem?_pos a i (by (exact a79 hij hh hj))
  have e2 : a[j]? = some a[j] := getElem?_pos a j (by (exact a84 hj hh))
  rw [kk_of e1, kk_of e2]
  exact asc_at h hij e1 e2
theorem take1 {a : Array KRow} {i : Nat} {x : KRow} (h : a[i]? = some x) : (a.toList.drop i).take 1 = [x] := by
  have hi : i < a.toList.length := by have := size_of h; simpa using this
  have hx : a.toList[i] = x := by have := (Array.getElem?_eq_some_iff.mp h).2; simpa using this
  rw [List.drop_eq_getElem_cons hi, hx]; rfl
variable {a b out : Array KRow} {ia ib : Nat}
theorem pushB (h : Mrg K a.toList b.toList out.toList ia ib) (hb : Asc K b.toList) {y : KRow} (hy : b[ib]? = some y) (hc : ∀ z ∈ a.toList.drop ia, K y ≤ K z) : Mrg K a.toList b.toList (out.push y).toList ia (ib + 1) := by
  have := h.addB hb 1 (by rw [take1 hy]; intro w hw z hz; cases List.mem_singleton.mp hw; exact hc z hz)
  rw [take1 hy] at this
  simpa using this
theorem pushA (h : Mrg K a.toList b.toList out.toList ia ib) (ha : Asc K a.toList) {y : KRow} (hy : a[ia]? = some y) (hc : ∀ z ∈ b.toList.drop ib, K y ≤ K z) : Mrg K a.toList b.toList (out.push y).toList (ia + 1) ib := (pushB h.swap ha hy hc).swap
theorem extract_list (a : Array KRow) (i k : Nat) : (a.extract i (i + k)).toList = (a.toList.drop i).take k := by
  simp [List.extract_eq_take_drop]
theorem extract_all (a : Array KRow) (i : Nat) : (a.extract i a.size).toList = a.toList.drop i := by
  simp [List.extract_eq_take_drop]
  rw [List.take_of_length_le (by simp)]
theorem blkA (h : Mrg K a.toList b.toList out.toList ia ib) (ha : Asc K a.toList) (k : Nat) (hc : ∀ y ∈ (a.toList.drop ia).take k, ∀ z ∈ b.toList.drop ib, K y ≤ K z) : Mrg K a.toList b.toList (out ++ a.extract ia (ia + k)).toList (ia + k) ib := by
  rw [Array.toList_append, extract_list]; exact h.addA ha k hc
theorem blkB (h : Mrg K a.toList b.toList out.toList ia ib) (hb : Asc K b.toList) (k : Nat) (hc : ∀ y ∈ (b.toList.drop ib).take k, ∀ z ∈ a.toList.drop ia, K y ≤ K z) : Mrg K a.toList b.toList (out ++ b.extract ib (ib + k)).toList ia (ib + k) := by
  rw [Array.toList_append, extract_list]; exact h.addB hb k hc
def Rs (K : KRow → Int) (a b r : Array KRow) : Prop := r.toList.Perm (a.toList ++ b.toList) ∧ Asc K r.toList
theorem doneP (h : Mrg K a.toList b.toList out.toList ia ib) (ha : Asc K a.toList) (hb : Asc K b.toList) (he : b.size ≤ ib ∨ a.size ≤ ia) : Rs K a b (out ++ a.extract ia a.size ++ b.extract ib b.size) := by
  unfold Rs
  rw [Array.toList_append, Array.toList_append, extract_all, extract_all]
  refine h.allA ha hb fun y hy z hz => ?_
  obtain ⟨i, hi⟩ := mem_drop_iff.mp hy
  obtain ⟨j, hj⟩ := mem_drop_iff.mp hz
  have := size_of hi; have := size_of hj
  (exact (a81 ‹_› he this).elim)
theorem lastP (h : Mrg K a.toList b.toList out.toList ia ib) (ha : Asc K a.toList) (hb : Asc K b.toList) (hl : ∀ x ∈ a.toList.drop (a.size - 1), ∀ y ∈ b.toList, K y ≤ K x) (he : ia + 1 = a.size) : Rs K a b (out ++ b.extract ib b.size ++ a.extract ia a.size) := by
  unfold Rs
  rw [Array.toList_append, Array.toList_append, extract_all, extract_all]
  exact h.all ha hb fun y hy z hz => hl z (by rw [show a.size - 1 = ia by (exact a83 he)]; exact hz) y (List.mem_of_mem_drop hy)
theorem gal_lo {k : Nat} {T : Int} (hlo : ∀ i, i < k → kk K a (ia + i) < T) : ∀ y ∈ (a.toList.drop ia).take k, K y < T := fun y hy => by
  obtain ⟨i, hi, h⟩ := mem_block_iff.mp hy
  have := hlo i hi; rw [kk_of h] at this; exact this
theorem gal_hi {k : Nat} {T : Int} (hhi : ∀ i, k ≤ i → i < a.size - ia → ¬ kk K a (ia + i) < T) : ∀ z ∈ a.toList.drop (ia + k), T ≤ K z := fun z hz => by
  obtain ⟨i, h⟩ := mem_drop_iff.mp hz
  rw [Nat.add_assoc] at h
  have := hhi (k + i) (by (exact a54 )) (by have := size_of h; (exact a85 this))
  rw [kk_of h] at this; (exact a87 this)
theorem mergeLo_ok {a b : Array KRow} {st : SortSt} {Q : Array KRow → SortSt → Prop} (L : LtOk M A E s κ S K) (hSa : AllS S a) (hSb : AllS S b) (hst : PyProof.Rows.kindOf st = κ) (ha1 : 1 ≤ a.size) (hb1 : 1 ≤ b.size)
    (ha : Asc K a.toList) (hb : Asc K b.toList) (h0 : ∀ x ∈ b.toList.take 1, ∀ z ∈ a.toList, K x ≤ K z) (hl : ∀ x ∈ a.toList.drop (a.size - 1), ∀ y ∈ b.toList, K y ≤ K x)
    (h : ∀ out st', Rs K a b out → SameG st st' → Q out st') : PyProof.Rows.wpS M A E s (mergeLo' a b) Q st := by
  unfold mergeLo'
  refine wpS_bind (wpS_lift (wpAny_rule ⟨rfl, ?_⟩))
  refine wpS_bind (elem_ok (K := K) (by (exact a86 hb1)) fun x hx hkx => ?_)
  (try dsimp -zeta -zetaHave only)
  have m0 : Mrg K a.toList b.toList (#[x] : Array KRow).toList 0 1 := by
    have h00 : Mrg K a.toList b.toList (#[] : Array KRow).toList 0 0 := ⟨by simp, .nil, fun z hz => by simp at hz⟩
    have := pushB h00 hb hx (fun z hz => h0 x (by have := take1 hx; rw [List.drop_zero] at this; rw [this]; simp) z (by simpa using hz))
    simpa using this
  refine wpS_ite (fun e0 => ?_) fun e0 => ?_
  · skip
    have e0 : 1 = b.size := by simpa using e0
    exact wpS_pure (h _ _ (doneP m0 ha hb (.inl (by (exact a89 ‹_›)))) (.refl st))
  have e0 : ¬ 1 = b.size := by simpa using e0
  refine wpS_ite (fun e1 => ?_) fun e1 => ?_
  · skip
    exact wpS_pure (h _ _ (lastP m0 ha hb hl (by simpa using e1)) (.refl st))
  have e1 : ¬ 0 + 1 = a.size := by simpa using e1
  refine wpS_bind (wpS_get ?_)
  refine wpS_bind (wpS_mono (wpS_forRange
    (I := fun x c st' => SameG st st' ∧ c.1 = none ∧ (Mrg K a.toList b.toList c.2.1.toList c.2.2.1 c.2.2.2.1 ∧ c.2.2.1 + 1 < a.size ∧ c.2.2.2.1 < b.size) ∧ x + 1 ≤ c.2.2.1 + c.2.2.2.1)
    (Q := fun c st' => SameG st st' ∧ ∃ r, c.1 = some r ∧ Rs K a b r) ?step ?fin ⟨.refl st, rfl, ⟨m0, by dsimp only; (exact a90 ha1 ‹_›), by dsimp only; (exact a92 hb1 ‹_›)⟩, by dsimp only; (exact a93 )⟩) ?post)
  case fin =>
    rintro c st' ⟨_, _, ⟨_, h2, h3⟩, h4⟩
    (exact (a95 h4 h2 h3).elim)
  case post =>
    rintro ⟨c1, c2⟩ st' ⟨sg, r, hr, hR⟩
    cases hr
    exact wpS_pure (h r st' hR sg)
  case step =>
    rintro x0 ⟨c1, out, ia, ib, mg⟩ st' _ hx0 ⟨sg, hc1, ⟨m1, hia, hib⟩, hp⟩
    dsimp -zeta -zetaHave only at hc1 m1 hia hib hp ⊢
    subst hc1
    refine wpS_bind (wpS_mono (wpS_forRange
      (I := fun x c st' => SameG st st' ∧ c.1 = none ∧ (Mrg K a.toList b.toList c.2.1.toList c.2.2.1 c.2.2.2.1 ∧ c.2.2.1 + 1 < a.size ∧ c.2.2.2.1 < b.size) ∧ ia + ib + x ≤ c.2.2.1 + c.2.2.2.1)
      (Q := fun c st' => SameG st st' ∧ ((∃ r, c.1 = some r ∧ Rs K a b r) ∨ (c.1 = none ∧ (Mrg K a.toList b.toList c.2.1.toList c.2.2.1 c.2.2.2.1 ∧ c.2.2.1 + 1 < a.size ∧ c.2.2.2.1 < b.size) ∧ ia + ib + 1 ≤ c.2.2.1 + c.2.2.2.1))) ?istep ?ifin ⟨sg, rfl, ⟨m1, hia, hib⟩, Nat.le_refl _⟩) ?ipost)
    case ifin =>
      rintro c st' ⟨_, _, ⟨_, h2, h3⟩, h4⟩
      (exact (a98 h4 h2 hp h3).elim)
    case istep =>
      rintro x1 ⟨c1, out, ia', ib', ac, bc⟩ st' _ hx1 ⟨sg, hc1, ⟨m1, hia, hib⟩, hp1⟩
      dsimp -zeta -zetaHave only at hc1 m1 hia hib hp1 ⊢
      subst hc1
      refine wpS_bind (elem_ok (K := K) hib fun y hy hky => ?_)
      refine wpS_bind (elem_ok (K := K) (by (exact a100 hia)) fun z hz hkz => ?_)
      refine wpS_bind (L _ _ _ _ (hSb _ _ hy) (hSa _ _ hz) (sg.kind.trans hst) ?_)
      (try dsimp -zeta -zetaHave only)
      by_cases hw : K y < K z
      · rw [decide_eq_true hw, if_pos rfl]
        refine wpS_bind (elem_ok (K := K) hib fun y2 hy2 _ => ?_)
        rw [hy] at hy2; cases hy2
        have m2 := pushB m1 hb hy (fun q hq => by
          obtain ⟨j, hj⟩ := mem_drop_iff.mp hq
          have := asc_at ha (Nat.le_add_right _ j) hz hj
          (exact a102 hw this))
        refine wpS_ite (fun e2 => ?_) fun e2 => ?_
        · exact wpS_pure ⟨sg, .inl ⟨_, rfl, doneP m2 ha hb (.inl (beq_le e2))⟩⟩
        have e2 : ¬ ib' + 1 = b.size := by simpa using e2
        refine wpS_ite (fun _ => ?_) fun _ => ?_
        · exact wpS_pure ⟨sg, .inr ⟨rfl, ⟨m2, by dsimp only; (exact hia), by dsimp only; (exact a105 hib ‹_›)⟩, by dsimp only; (exact a106 hp1)⟩⟩
        · exact wpS_pure ⟨sg, rfl, ⟨m2, by dsimp only; (exact hia), by dsimp only; (exact a105 hib ‹_›)⟩, by dsimp only; (exact a108 hp1)⟩
      · rw [decide_eq_false hw, if_neg (by decide)]
        refine wpS_bind (elem_ok (K := K) (by (exact a100 hia)) fun z2 hz2 _ => ?_)
        rw [hz] at hz2; cases hz2
        have m2 := pushA m1 ha hz (fun q hq => by
          obtain ⟨j, hj⟩ := mem_drop_iff.mp hq
          have := asc_at hb (Nat.le_add_right _ j) hy hj
          (exact a110 this hw))
        refine wpS_ite (fun e2 => ?_) fun e2 => ?_
        · exact wpS_pure ⟨sg, .inl ⟨_, rfl, lastP m2 ha hb hl (by simpa using e2)⟩⟩
        have e2 : ¬ ia' + 1 + 1 = a.size := by simpa using e2
        refine wpS_ite (fun _ => ?_) fun _ => ?_
        · exact wpS_pure ⟨sg, .inr ⟨rfl, ⟨m2, by dsimp only; (exact a112 hia ‹_›), by dsimp only; (exact hib)⟩, by dsimp only; (exact a116 hp1)⟩⟩
        · exact wpS_pure ⟨sg, rfl, ⟨m2, by dsimp only; (exact a112 hia ‹_›), by dsimp only; (exact hib)⟩, by dsimp only; (exact a126 hp1)⟩
    case ipost =>
      rintro ⟨c1, out, ia2, ib2, ac, bc⟩ st' ⟨sg, hq⟩
      dsimp -zeta -zetaHave only at hq ⊢
      rcases hq with ⟨r, hr, hR⟩ | ⟨hc1, ⟨m1, hia, hib⟩, hp2⟩
      · cases hr
        exact wpS_pure ⟨sg, r, rfl, hR⟩
      · subst hc1
        (try dsimp -zeta -zetaHave only)
        refine wpS_bind (wpS_lift (wpAny_rule ⟨rfl, ?_⟩))
        refine wpS_bind (wpS_mono (wpS_forRange
          (I := fun x c st' => SameG st st' ∧ c.1 = none ∧ (Mrg K a.toList b.toList c.2.1.toList c.2.2.1 c.2.2.2.1 ∧ c.2.2.1 + 1 < a.size ∧ c.2.2.2.1 < b.size) ∧ ia2 + ib2 + x ≤ c.2.2.1 + c.2.2.2.1)
          (Q := fun c st' => SameG st st' ∧ ((∃ r, c.1 = some r ∧ Rs K a b r) ∨ (c.1 = none ∧ (Mrg K a.toList b.toList c.2.1.toList c.2.2.1 c.2.2.2.1 ∧ c.2.2.1 + 1 < a.size ∧ c.2.2.2.1 < b.size) ∧ ia2 + ib2 ≤ c.2.2.1 + c.2.2.2.1))) ?gstep ?gfin ⟨sg, rfl, ⟨m1, hia, hib⟩, Nat.le_refl _⟩) ?gpost)
        case gfin =>
          rintro c st' ⟨_, _, ⟨_, h2, h3⟩, h4⟩
          (exact (a138 h4 h2 h3).elim)
        case gpost =>
          rintro ⟨c1, out3, ia3, ib3, mg3, ac3, bc3⟩ st' ⟨sg, hq⟩
          dsimp -zeta -zetaHave only at hq ⊢
          rcases hq with ⟨r, hr, hR⟩ | ⟨hc1, ⟨m1, hia, hib⟩, hp3⟩
          · cases hr
            exact wpS_pure ⟨sg, r, rfl, hR⟩
          · subst hc1
            (try dsimp -zeta -zetaHave only)
            refine wpS_bind (wpS_modify (wpS_pure ⟨sg.set _, rfl, ⟨m1, hia, hib⟩, by dsimp only; (exact a144 hp2 hp hp3)⟩))
        case gstep =>
          rintro x2 ⟨c1, out, ia, ib, mg, ac, bc⟩ st' _ hx2 ⟨sg, hc1, ⟨m1, hia, hib⟩, hp3⟩
          dsimp -zeta -zetaHave only at hc1 m1 hia hib hp3 ⊢
          subst hc1
          extract_lets s0 o1 s1 i1 s2 j1 s3 g1 s4 ac1 bc1 j2 jp g2
          refine wpS_opq (fun Q' => (∀ r c st', SameG st st' → Rs K a b r → Q' (.done (some r, c)) st') ∧ (∀ out ia ib x st', SameG st st' → Mrg K a.toList b.toList out.toList ia ib → ia + 1 < a.size → ib < b.size → ia2 + ib2 + (x2 + 1) ≤ ia + ib → Q' (.done (none, out, ia, ib, x)) st' ∧ Q' (.yield (none, out, ia, ib, x)) st')) ⟨fun r c st' sg h => ⟨sg, .inl ⟨r, rfl, h⟩⟩, fun out ia ib x st' sg m h1 h2 h3 => ⟨⟨sg, .inr ⟨rfl, ⟨m, h1, h2⟩, Nat.le_trans (Nat.le_add_right _ _) h3⟩⟩, ⟨sg, rfl, ⟨m, h1, h2⟩, h3⟩⟩⟩ ?_
          rintro QQ ⟨qd, qn⟩
          have hjp : ∀ g, PyProof.Rows.wpS M A E s (jp () g) QQ st' := by
            intro g
            dsimp -zeta -zetaHave only [jp, o1, i1, j1, j2, bc1, s0, s1, s2, s3, s4]
            refine wpS_bind (wpS_modify ?_)
            have sg : SameG st _ := sg.set g
            refine wpS_bind (elem_ok (K := K) hib fun key hkey _ => ?_)
            refine wpS_bind (gallop_ok L (hSb _ _ hkey) hSa (sg.kind.trans hst) (by (exact a159 hia)) (by (exact a164 hia)) (asc_on ha (by (exact a159 hia))) fun k hk hlo hhi => ?_)
            simp only [Bool.false_eq_true, if_false] at hlo hhi
            have lo0 := gal_lo hlo
            have hi0 := gal_hi hhi
            have m2 := blkA m1 ha k (fun w hw z hz => by
              have := lo0 w hw
              obtain ⟨j, hj⟩ := mem_drop_iff.mp hz
              have := asc_at hb (Nat.le_add_right _ j) hkey hj
              (exact a176 ‹_› this))
            (try dsimp -zeta -zetaHave only)
            extract_lets ac2 jp2 o2 i2
            have hjp2 : ∀ (o : Array KRow) (i : Nat) (st₂ : SortSt), SameG st st₂ → Mrg K a.toList b.toList o.toList i ib → (∀ z ∈ a.toList.drop i, K key + 1 ≤ K z) → i + 1 < a.size → ia ≤ i → PyProof.Rows.wpS M A E s (jp2 () o i) QQ st₂ := by
              intro o i st₂ sg m2 hB hi hge
              dsimp -zeta -zetaHave only [jp2]
              refine wpS_bind (elem_ok (K := K) hib fun y hy _ => ?_)
              rw [hkey] at hy; cases hy
              have m3 := pushB m2 hb hkey (fun z hz => by have := hB z hz; (exact a187 this))
              extract_lets o3
              refine wpS_ite (fun e3 => ?_) fun e3 => ?_
              · exact wpS_pure (qd _ _ _ sg (doneP m3 ha hb (.inl (beq_le e3))))
              have e3 : ¬ ib + 1 = b.size := by simpa using e3
              refine wpS_bind (elem_ok (K := K) (by (exact a100 hi)) fun xa hxa _ => ?_)
              refine wpS_bind (gallop_ok L (hSa _ _ hxa) hSb (sg.kind.trans hst) (by (exact a234 hib)) (by (exact a260 hib ‹_›)) (asc_on hb (by (exact a234 hib))) fun k1 hk1 hlo1 hhi1 => ?_)
              simp only [if_true, Int.add_zero] at hlo1 hhi1
              have lo1 := gal_lo hlo1
              have hi1 := gal_hi hhi1
              have m4 := blkB m3 hb k1 (fun w hw z hz => by
                have := lo1 w hw
                obtain ⟨j, hj⟩ := mem_drop_iff.mp hz
                have := asc_at ha (Nat.le_add_right _ j) hxa hj
                (exact a102 ‹_› this))
              (try dsimp -zeta -zetaHave only)
              extract_lets bc2 jp3 o4 j4
              have hjp3 : ∀ (o : Array KRow) (j : Nat), Mrg K a.toList b.toList o.toList i j → (∀ z ∈ b.toList.drop j, K xa ≤ K z) → j < b.size → ib + 1 ≤ j → PyProof.Rows.wpS M A E s (jp3 () o j) QQ st₂ := by
                intro o j m4 hA hj hjb
                dsimp -zeta -zetaHave only [jp3]
                refine wpS_bind (elem_ok (K := K) (by (exact a100 hi)) fun xa2 hxa2 _ => ?_)
                rw [hxa] at hxa2; cases hxa2
                have m5 := pushA m4 ha hxa hA
                dsimp only
                refine wpS_ite (fun e5 => ?_) fun e5 => ?_
                · exact wpS_pure (qd _ _ _ sg (lastP m5 ha hb hl (eq_of_beq e5)))
                have e5 : ¬ i + 1 + 1 = a.size := by simpa using e5
                have q := fun x => qn _ _ _ x _ sg m5 (by (first | lia | omega)) hj (by (exact a288 hp3 hjb hge))
                exact wpS_ite (fun _ => wpS_pure (q _).1) fun _ => wpS_pure (q _).2
              refine wpS_ite (fun hk10 => ?_) fun hk10 => ?_
              · refine wpS_ite (fun e4 => ?_) fun e4 => ?_
                · exact wpS_pure (qd _ _ _ sg (doneP m4 ha hb (.inl (beq_le e4))))
                have e4 : ¬ ib + 1 + k1 = b.size := fun h => e4 (beq_iff_eq.mpr h)
                exact hjp3 _ _ m4 hi1 (by (first | lia | omega)) (by (first | lia | omega))
              · have hk1z : k1 = 0 := by (exact a314 hk10)
                subst hk1z
                exact hjp3 _ _ m3 hi1 (by (exact a105 hib ‹_›)) (Nat.le_refl _)
            refine wpS_ite (fun hk0 => ?_) fun hk0 => ?_
            · refine wpS_ite (fun e1 => ?_) fun e1 => ?_
              · exact wpS_pure (qd _ _ _ sg (lastP m2 ha hb hl (eq_of_beq e1)))
              have e1 : ¬ ia + k + 1 = a.size := fun h => e1 (beq_iff_eq.mpr h)
              refine wpS_ite (fun e2 => ?_) fun e2 => ?_
              · exact wpS_pure (qd _ _ _ sg (doneP m2 ha hb (.inr (beq_le e2))))
              have e2 : ¬ ia + k = a.size := fun h => e2 (beq_iff_eq.mpr h)
              exact hjp2 _ _ _ sg m2 hi0 (by (first | lia | omega)) (by (first | lia | omega))
            · have hkz : k = 0 := by (exact a314 hk0)
              subst hkz
              exact hjp2 _ _ _ sg m1 hi0 hia (Nat.le_refl _)
          exact wpS_ite (fun _ => hjp _) fun _ => hjp _
end
end Mine

set_option autoImplicit false
set_option maxHeartbeats 4000000
set_option maxRecDepth 100000
namespace Mine
open PySem PyProof.Rows
section
variable {M : Model} {A : Around} {E : Value → Shared → Prop} {s : Shared} {κ : SortKind} {S : KRow → Prop} {K : KRow → Int}
variable {a b out : Array KRow} {na nb : Nat}
theorem mem_take_iff {a : Array KRow} {n : Nat} {z : KRow} : z ∈ a.toList.take n ↔ ∃ i, i < n ∧ a[i]? = some z := by
  have := mem_block_iff (a := a) (n := 0) (k := n) (z := z)
  simpa using this
theorem mem_td_iff {a : Array KRow} {n k : Nat} {z : KRow} : z ∈ (a.toList.take n).drop k ↔ ∃ i, k ≤ i ∧ i < n ∧ a[i]? = some z := by
  rw [List.mem_iff_getElem?]
  constructor
  · rintro ⟨i, h⟩
    rw [List.getElem?_drop, List.getElem?_take] at h
    split at h
    · rename_i hi; exact ⟨k + i, by (exact a54 ), hi, by simpa using h⟩
    · cases h
  · rintro ⟨i, h1, h2, h⟩
    exact ⟨i - k, by rw [List.getElem?_drop, List.getElem?_take, show k + (i - k) = i by (exact a25 h1), if_pos h2]; simpa using h⟩
theorem td1 {a : Array KRow} {n : Nat} {x : KRow} (hn : 0 < n) (h : a[n - 1]? = some x) : (a.toList.take n).drop (n - 1) = [x] := by
  have hi := size_of h
  have hl : n - 1 < (a.toList.take n).length := by simp; (exact a130 hi hn)
  have hx : (a.toList.take n)[n - 1] = x := by
    have := (Array.getElem?_eq_some_iff.mp h).2; simpa using this
  rw [List.drop_eq_getElem_cons hl, hx, List.drop_of_length_le (by simp; (exact a136 ))]
theorem extract_td (a : Array KRow) (i n : Nat) : (a.extract i n).toList = (a.toList.take n).drop i := by
  simp [List.extract_eq_take_drop, List.drop_take]
theorem rpushA (h : Mrh K a.toList b.toList out.reverse.toList na nb) (ha : Asc K a.toList) (hn : 0 < na) {y : KRow} (hy : a[na - 1]? = some y) (hc : ∀ z ∈ b.toList.take nb, K z ≤ K y) : Mrh K a.toList b.toList (out.push y).reverse.toList (na - 1) nb := by
  have := h.addA ha (na - 1) (by (exact a131 hn)) (by rw [td1 hn hy]; intro w hw z hz; cases List.mem_singleton.mp hw; exact hc z hz)
  rw [td1 hn hy] at this
  simpa using this
theorem rpushB (h : Mrh K a.toList b.toList out.reverse.toList na nb) (hb : Asc K b.toList) (hn : 0 < nb) {y : KRow} (hy : b[nb - 1]? = some y) (hc : ∀ z ∈ a.toList.take na, K z ≤ K y) : Mrh K a.toList b.toList (out.push y).reverse.toList na (nb - 1) := (rpushA h.swap hb hn hy hc).swap
theorem rblkA (h : Mrh K a.toList b.toList out.reverse.toList na nb) (ha : Asc K a.toList) (k : Nat) (hk : k ≤ na) (hc : ∀ y ∈ (a.toList.take na).drop k, ∀ z ∈ b.toList.take nb, K z ≤ K y) : Mrh K a.toList b.toList (out ++ (a.extract k na).reverse).reverse.toList k nb := by
  have e : (out ++ (a.extract k na).reverse).reverse.toList = (a.toList.take na).drop k ++ out.reverse.toList := by
    rw [← extract_td]; simp
  rw [e]
  exact h.addA ha k hk hc
theorem rblkB (h : Mrh K a.toList b.toList out.reverse.toList na nb) (hb : Asc K b.toList) (k : Nat) (hk : k ≤ nb) (hc : ∀ y ∈ (b.toList.take nb).drop k, ∀ z ∈ a.toList.take na, K z ≤ K y) : Mrh K a.toList b.toList (out ++ (b.extract k nb).reverse).reverse.toList na k := (rblkA h.swap hb k hk hc).swap
theorem extract0 (a : Array KRow) (n : Nat) : (a.extract 0 n).toList = a.toList.take n := by rw [extract_td, List.drop_zero]
theorem rdone (h : Mrh K a.toList b.toList out.reverse.toList na nb) (ha : Asc K a.toList) (hb : Asc K b.toList) (he : na = 0 ∨ nb = 0) : Rs K a b (a.extract 0 na ++ b.extract 0 nb ++ out.reverse) := by
  unfold Rs
  rw [Array.toList_append, Array.toList_append, extract0, extract0]
  refine h.all ha hb fun y hy z hz => ?_
  rcases he with rfl | rfl
  · simp at hy
  · simp at hz
theorem rfirst (h : Mrh K a.toList b.toList out.reverse.toList na nb) (ha : Asc K a.toList) (hb : Asc K b.toList) (h0 : ∀ x ∈ b.toList.take 1, ∀ z ∈ a.toList, K x ≤ K z) (he : nb = 1) : Rs K a b (b.extract 0 nb ++ a.extract 0 na ++ out.reverse) := by
  unfold Rs
  subst he
  rw [Array.toList_append, Array.toList_append, extract0, extract0]
  exact h.allB ha hb fun y hy z hz => h0 y hy z (List.mem_of_mem_take hz)
theorem beq_eq {m n : Nat} (h : (m == n) = true) : m = n := by simpa using h
theorem mergeHi_ok {a b : Array KRow} {st : SortSt} {Q : Array KRow → SortSt → Prop} (L : LtOk M A E s κ S K) (hSa : AllS S a) (hSb : AllS S b) (hst : PyProof.Rows.kindOf st = κ) (ha1 : 1 ≤ a.size) (hb1 : 1 ≤ b.size)
    (ha : Asc K a.toList) (hb : Asc K b.toList) (h0 : ∀ x ∈ b.toList.take 1, ∀ z ∈ a.toList, K x ≤ K z) (hl : ∀ x ∈ a.toList.drop (a.size - 1), ∀ y ∈ b.toList, K y ≤ K x)
    (h : ∀ out st', Rs K a b out → SameG st st' → Q out st') : PyProof.Rows.wpS M A E s (mergeHi' a b) Q st := by
  unfold mergeHi'
  refine wpS_bind (wpS_lift (wpAny_rule ⟨rfl, ?_⟩))
  refine wpS_bind (elem_ok (K := K) (by (exact a151 ha1)) fun x hx hkx => ?_)
  (try dsimp -zeta -zetaHave only)
  have m0 : Mrh K a.toList b.toList (#[x] : Array KRow).reverse.toList (a.size - 1) b.size := by
    have h00 : Mrh K a.toList b.toList (#[] : Array KRow).reverse.toList a.size b.size := ⟨by simp, by simp; exact .nil, fun z hz => by simp at hz⟩
    have := rpushA h00 ha (by (exact a86 ha1)) hx (fun z hz => hl x (mem_drop_iff.mpr ⟨0, by simpa using hx⟩) z (List.mem_of_mem_take hz))
    simpa using this
  by_cases e0 : (a.size - 1 == 0) = true
  · rw [if_pos e0]
    exact wpS_pure (h _ _ (rdone m0 ha hb (.inl (beq_eq e0))) (.refl st))
  rw [if_neg e0]
  have e0 : ¬ a.size - 1 = 0 := by simpa using e0
  by_cases e1 : (b.size == 1) = true
  · rw [if_pos e1]
    exact wpS_pure (h _ _ (rfirst m0 ha hb h0 (beq_eq e1)) (.refl st))
  rw [if_neg e1]
  have e1 : ¬ b.size = 1 := by simpa using e1
  refine wpS_bind (wpS_get ?_)
  refine wpS_bind (wpS_mono (wpS_forRange
    (I := fun x c st' => SameG st st' ∧ c.1 = none ∧ (Mrh K a.toList b.toList c.2.2.2.1.reverse.toList c.2.1 c.2.2.1 ∧ 0 < c.2.1 ∧ 1 < c.2.2.1 ∧ c.2.1 ≤ a.size ∧ c.2.2.1 ≤ b.size) ∧ x + 1 + c.2.1 + c.2.2.1 ≤ a.size + b.size)
    (Q := fun c st' => SameG st st' ∧ ∃ r, c.1 = some r ∧ Rs K a b r) ?step ?fin ⟨.refl st, rfl, ⟨m0, by dsimp only; (exact a161 ‹_›), by dsimp only; (exact a163 hb1 ‹_›), by dsimp only; (exact a165 ha1), by dsimp only; (exact a147 )⟩, by dsimp only; (exact a167 ha1)⟩) ?post)
  case fin =>
    rintro c st' ⟨_, _, ⟨_, h2, h3, _⟩, h4⟩
    (exact (a171 h4).elim)
  case post =>
    rintro ⟨c1, c2⟩ st' ⟨sg, r, hr, hR⟩
    cases hr
    exact wpS_pure (h r st' hR sg)
  case step =>
    rintro x0 ⟨c1, na, nb, out, mg⟩ st' _ hx0 ⟨sg, hc1, ⟨m1, hna, hnb, hna', hnb'⟩, hp⟩
    dsimp -zeta -zetaHave only at hc1 m1 hna hnb hna' hnb' hp ⊢
    subst hc1
    refine wpS_bind (wpS_mono (wpS_forRange
      (I := fun x c st' => SameG st st' ∧ c.1 = none ∧ (Mrh K a.toList b.toList c.2.2.2.1.reverse.toList c.2.1 c.2.2.1 ∧ 0 < c.2.1 ∧ 1 < c.2.2.1 ∧ c.2.1 ≤ a.size ∧ c.2.2.1 ≤ b.size) ∧ c.2.1 + c.2.2.1 + x ≤ na + nb)
      (Q := fun c st' => SameG st st' ∧ ((∃ r, c.1 = some r ∧ Rs K a b r) ∨ (c.1 = none ∧ (Mrh K a.toList b.toList c.2.2.2.1.reverse.toList c.2.1 c.2.2.1 ∧ 0 < c.2.1 ∧ 1 < c.2.2.1 ∧ c.2.1 ≤ a.size ∧ c.2.2.1 ≤ b.size) ∧ c.2.1 + c.2.2.1 + 1 ≤ na + nb))) ?istep ?ifin ⟨sg, rfl, ⟨m1, hna, hnb, hna', hnb'⟩, Nat.le_refl _⟩) ?ipost)
    case ifin =>
      rintro c st' ⟨_, _, ⟨_, h2, h3, _⟩, h4⟩
      (exact (a177 hp h4).elim)
    case istep =>
      rintro x1 ⟨c1, na, nb, out, ac, bc⟩ st' _ hx1 ⟨sg, hc1, ⟨m1, hna, hnb, hna', hnb'⟩, hp1⟩
      dsimp -zeta -zetaHave only at hc1 m1 hna hnb hna' hnb' hp1 ⊢
      subst hc1
      refine wpS_bind (elem_ok (K := K) (by (exact a181 hnb hnb')) fun y hy hky => ?_)
      refine wpS_bind (elem_ok (K := K) (by (exact a186 hna hna')) fun z hz hkz => ?_)
      refine wpS_bind (L _ _ _ _ (hSb _ _ hy) (hSa _ _ hz) (sg.kind.trans hst) ?_)
      (try dsimp -zeta -zetaHave only)
      by_cases hw : K y < K z
      · rw [decide_eq_true hw, if_pos rfl]
        refine wpS_bind (elem_ok (K := K) (by (exact a186 hna hna')) fun z2 hz2 _ => ?_)
        rw [hz] at hz2; cases hz2
        have m2 := rpushA m1 ha hna hz (fun q hq => by
          obtain ⟨j, j1, j3⟩ := mem_take_iff.mp hq
          have := asc_at hb (show j ≤ nb - 1 by (exact a198 j1)) j3 hy
          (exact a203 this hw))
        by_cases e2 : (na - 1 == 0) = true
        · rw [if_pos e2]; exact wpS_pure ⟨sg, .inl ⟨_, rfl, rdone m2 ha hb (.inl (beq_eq e2))⟩⟩
        rw [if_neg e2]
        have e2 : ¬ na - 1 = 0 := by simpa using e2
        split
        · exact wpS_pure ⟨sg, .inr ⟨rfl, ⟨m2, by dsimp only; (exact a161 ‹_›), by dsimp only; (exact hnb), by dsimp only; (exact a220 hna hna'), by dsimp only; (exact hnb')⟩, by dsimp only; (exact a231 hp1 hna)⟩⟩
        · exact wpS_pure ⟨sg, rfl, ⟨m2, by dsimp only; (exact a161 ‹_›), by dsimp only; (exact hnb), by dsimp only; (exact a220 hna hna'), by dsimp only; (exact hnb')⟩, by dsimp only; (exact a252 hp1 hna)⟩
      · rw [decide_eq_false hw, if_neg (by decide)]
        refine wpS_bind (elem_ok (K := K) (by (exact a181 hnb hnb')) fun y2 hy2 _ => ?_)
        rw [hy] at hy2; cases hy2
        have m2 := rpushB m1 hb (by (exact a262 hnb)) hy (fun q hq => by
          obtain ⟨j, j1, j3⟩ := mem_take_iff.mp hq
          have := asc_at ha (show j ≤ na - 1 by (exact a198 j1)) j3 hz
          (exact a265 this hw))
        by_cases e2 : (nb - 1 == 1) = true
        · rw [if_pos e2]; exact wpS_pure ⟨sg, .inl ⟨_, rfl, rfirst m2 ha hb h0 (beq_eq e2)⟩⟩
        rw [if_neg e2]
        have e2 : ¬ nb - 1 = 1 := by simpa using e2
        split
        · exact wpS_pure ⟨sg, .inr ⟨rfl, ⟨m2, by dsimp only; (exact hna), by dsimp only; (exact a272 hnb ‹_›), by dsimp only; (exact hna'), by dsimp only; (exact a278 hnb hnb')⟩, by dsimp only; (exact a281 hp1 hnb)⟩⟩
        · exact wpS_pure ⟨sg, rfl, ⟨m2, by dsimp only; (exact hna), by dsimp only; (exact a272 hnb ‹_›), by dsimp only; (exact hna'), by dsimp only; (exact a278 hnb hnb')⟩, by dsimp only; (exact a293 hp1 hnb)⟩
    case ipost =>
      rintro ⟨c1, na2, nb2, out, ac, bc⟩ st' ⟨sg, hq⟩
      dsimp -zeta -zetaHave only at hq ⊢
      rcases hq with ⟨r, hr, hR⟩ | ⟨hc1, ⟨m1, hna, hnb, hna', hnb'⟩, hp2⟩
      · cases hr
        exact wpS_pure ⟨sg, r, rfl, hR⟩
      · subst hc1
        (try dsimp -zeta -zetaHave only)
        refine wpS_bind (wpS_lift (wpAny_rule ⟨rfl, ?_⟩))
        refine wpS_bind (wpS_mono (wpS_forRange
          (I := fun x c st' => SameG st st' ∧ c.1 = none ∧ (Mrh K a.toList b.toList c.2.2.2.1.reverse.toList c.2.1 c.2.2.1 ∧ 0 < c.2.1 ∧ 1 < c.2.2.1 ∧ c.2.1 ≤ a.size ∧ c.2.2.1 ≤ b.size) ∧ c.2.1 + c.2.2.1 + x ≤ na2 + nb2)
          (Q := fun c st' => SameG st st' ∧ ((∃ r, c.1 = some r ∧ Rs K a b r) ∨ (c.1 = none ∧ (Mrh K a.toList b.toList c.2.2.2.1.reverse.toList c.2.1 c.2.2.1 ∧ 0 < c.2.1 ∧ 1 < c.2.2.1 ∧ c.2.1 ≤ a.size ∧ c.2.2.1 ≤ b.size) ∧ c.2.1 + c.2.2.1 ≤ na2 + nb2))) ?gstep ?gfin ⟨sg, rfl, ⟨m1, hna, hnb, hna', hnb'⟩, Nat.le_refl _⟩) ?gpost)
        case gfin =>
          rintro c st' ⟨_, _, ⟨_, h2, h3, _⟩, h4⟩
          (exact (a297 hp hp2 h4).elim)
        case gpost =>
          rintro ⟨c1, na3, nb3, out3, mg3, ac3, bc3⟩ st' ⟨sg, hq⟩
          dsimp -zeta -zetaHave only at hq ⊢
          rcases hq with ⟨r, hr, hR⟩ | ⟨hc1, ⟨m1, hna, hnb, hna', hnb'⟩, hp3⟩
          · cases hr
            exact wpS_pure ⟨sg, r, rfl, hR⟩
          · subst hc1
            (try dsimp -zeta -zetaHave only)
            refine wpS_bind (wpS_modify (wpS_pure ⟨sg.set _, rfl, ⟨m1, hna, hnb, hna', hnb'⟩, by dsimp only; (exact a301 hp hp2 hp3)⟩))
        case gstep =>
          rintro x2 ⟨c1, na, nb, out, mg, ac, bc⟩ st' _ hx2 ⟨sg, hc1, ⟨m1, hna, hnb, hna', hnb'⟩, hp3⟩
          dsimp -zeta -zetaHave only at hc1 m1 hna hnb hna' hnb' hp3 ⊢
          subst hc1
          extract_lets s0 n1 s1 b1 s2 o1 s3 g1 s4 ac1 bc1 b2 jp g2
          refine wpS_opq (fun Q' => (∀ r c st', SameG st st' → Rs K a b r → Q' (.done (some r, c)) st') ∧ (∀ na nb out x st', SameG st st' → Mrh K a.toList b.toList out.reverse.toList na nb → 0 < na → 1 < nb → na ≤ a.size → nb ≤ b.size → na + nb + (x2 + 1) ≤ na2 + nb2 → Q' (.done (none, na, nb, out, x)) st' ∧ Q' (.yield (none, na, nb, out, x)) st')) ⟨fun r c st' sg h => ⟨sg, .inl ⟨r, rfl, h⟩⟩, fun na nb out x st' sg m h1 h2 h3 h4 h5 => ⟨⟨sg, .inr ⟨rfl, ⟨m, h1, h2, h3, h4⟩, Nat.le_trans (Nat.le_add_right _ _) h5⟩⟩, ⟨sg, rfl, ⟨m, h1, h2, h3, h4⟩, h5⟩⟩⟩ ?_
          rintro QQ ⟨qd, qn⟩
          have hjp : ∀ g, PyProof.Rows.wpS M A E s (jp () g) QQ st' := by
            intro g
            dsimp -zeta -zetaHave only [jp, n1, b1, o1, b2, bc1, s0, s1, s2, s3, s4]
            refine wpS_bind (wpS_modify ?_)
            have sg : SameG st _ := sg.set g
            refine wpS_bind (elem_ok (K := K) (by (exact a181 hnb hnb')) fun key hkey _ => ?_)
            refine wpS_bind (gallop_ok L (hSb _ _ hkey) hSa (sg.kind.trans hst) (by (exact a306 hna')) (by (exact a309 hna)) (asc_on ha (by (exact a306 hna'))) fun k hk hlo hhi => ?_)
            simp only [Bool.false_eq_true, if_false, Nat.zero_add] at hlo hhi
            have m2 := rblkA m1 ha k hk (fun w hw z hz => by
              obtain ⟨i, i1, i2, i3⟩ := mem_td_iff.mp hw
              have := hhi i i1 i2
              rw [kk_of i3] at this
              obtain ⟨j, j1, j3⟩ := mem_take_iff.mp hz
              have := asc_at hb (show j ≤ nb - 1 by (exact a198 j1)) j3 hkey
              (exact a319 this ‹_›))
            have hB1 : ∀ z ∈ a.toList.take k, K z ≤ K key := fun z hz => by
              obtain ⟨j, j1, j3⟩ := mem_take_iff.mp hz
              have := hlo j j1
              rw [kk_of j3] at this
              (exact a321 this)
            (try dsimp -zeta -zetaHave only)
            extract_lets kk2 ac2 jp2 o2 n2
            have hjp2 : ∀ (n : Nat) (o : Array KRow) (st₂ : SortSt), SameG st st₂ → Mrh K a.toList b.toList o.reverse.toList n nb → (∀ z ∈ a.toList.take n, K z ≤ K key) → 0 < n → n ≤ na → PyProof.Rows.wpS M A E s (jp2 () n o) QQ st₂ := by
              intro n o st₂ sg m2 hB hn hle
              dsimp -zeta -zetaHave only [jp2]
              refine wpS_bind (elem_ok (K := K) (by (exact a181 hnb hnb')) fun y hy _ => ?_)
              rw [hkey] at hy; cases hy
              have m3 := rpushB m2 hb (by (exact a262 hnb)) hkey hB
              extract_lets o3
              refine wpS_ite (fun e3 => ?_) fun e3 => ?_
              · exact wpS_pure (qd _ _ _ sg (rfirst m3 ha hb h0 (beq_eq e3)))
              have e3 : ¬ nb - 1 = 1 := by simpa using e3
              refine wpS_bind (elem_ok (K := K) (by (exact a344 hn hle hna')) fun xa hxa _ => ?_)
              refine wpS_bind (gallop_ok L (hSa _ _ hxa) hSb (sg.kind.trans hst) (by (exact a353 hnb hnb')) (by (exact a359 hnb)) (asc_on hb (by (exact a353 hnb hnb'))) fun k1 hk1 hlo1 hhi1 => ?_)
              simp only [if_true, Int.add_zero, Nat.zero_add] at hlo1 hhi1
              have m4 := rblkB m3 hb k1 hk1 (fun w hw z hz => by
                obtain ⟨i, i1, i2, i3⟩ := mem_td_iff.mp hw
                have := hhi1 i i1 i2
                rw [kk_of i3] at this
                obtain ⟨j, j1, j3⟩ := mem_take_iff.mp hz
                have := asc_at ha (show j ≤ n - 1 by (exact a198 j1)) j3 hxa
                (exact a265 this ‹_›))
              have hA1 : ∀ z ∈ b.toList.take k1, K z ≤ K xa := fun z hz => by
                obtain ⟨j, j1, j3⟩ := mem_take_iff.mp hz
                have := hlo1 j j1
                rw [kk_of j3] at this
                (exact a393 this)
              (try dsimp -zeta -zetaHave only)
              extract_lets kk3 bc2 jp3 o4 b4
              have hjp3 : ∀ (m : Nat) (o : Array KRow), Mrh K a.toList b.toList o.reverse.toList n m → (∀ z ∈ b.toList.take m, K z ≤ K xa) → 1 < m → m ≤ nb - 1 → PyProof.Rows.wpS M A E s (jp3 () m o) QQ st₂ := by
                intro m o m4 hA hm hle2
                dsimp only [jp3]
                refine wpS_bind (elem_ok (K := K) (by (first | lia | omega)) fun xa2 hxa2 _ => ?_)
                rw [hxa] at hxa2; cases hxa2
                have m5 := rpushA m4 ha (by (exact hn)) hxa hA
                skip
                refine wpS_ite (fun e5 => ?_) fun e5 => ?_
                · exact wpS_pure (qd _ _ _ sg (rdone m5 ha hb (.inl (beq_eq e5))))
                have e5 : ¬ n - 1 = 0 := by simpa using e5
                have q := fun x => qn _ _ _ x _ sg m5 (by (first | lia | omega)) hm (by (exact a409 hn hle hna')) (by (exact a415 hnb hle2 hnb')) (by (exact a425 hp3 hn hnb hle hle2))
                exact wpS_ite (fun _ => wpS_pure (q _).1) fun _ => wpS_pure (q _).2
              refine wpS_ite (fun hk10 => ?_) fun hk10 => ?_
              · refine wpS_ite (fun e4 => ?_) fun e4 => ?_
                · exact wpS_pure (qd _ _ _ sg (rfirst m4 ha hb h0 (beq_eq e4)))
                have e4 : ¬ k1 = 1 := fun h => e4 (beq_iff_eq.mpr h)
                refine wpS_ite (fun e6 => ?_) fun e6 => ?_
                · exact wpS_pure (qd _ _ _ sg (rdone m4 ha hb (.inr (beq_eq e6))))
                have e6 : ¬ k1 = 0 := fun h => e6 (beq_iff_eq.mpr h)
                exact hjp3 _ _ m4 hA1 (by (exact a429 ‹_› ‹_›)) (by (exact hk1))
              · have hk10 : ¬ nb - 1 - k1 > 0 := hk10
                have hk1z : k1 = nb - 1 := by (first | lia | omega)
                exact hjp3 _ _ m3 (hk1z ▸ hA1) (by (exact a272 hnb ‹_›)) (Nat.le_refl _)
            refine wpS_ite (fun hk0 => ?_) fun hk0 => ?_
            · refine wpS_ite (fun e2 => ?_) fun e2 => ?_
              · exact wpS_pure (qd _ _ _ sg (rdone m2 ha hb (.inl (beq_eq e2))))
              have e2 : ¬ k = 0 := fun h => e2 (beq_iff_eq.mpr h)
              exact hjp2 _ _ _ sg m2 hB1 (by (exact a439 ‹_›)) (by (exact hk))
            · have hk0 : ¬ na - k > 0 := hk0
              have hkz : k = na := by (first | lia | omega)
              exact hjp2 _ _ _ sg m1 (hkz ▸ hB1) hna (Nat.le_refl _)
          exact wpS_ite (fun _ => hjp _) fun _ => hjp _
end
end Mine

set_option autoImplicit false
set_option maxHeartbeats 4000000
set_option maxRecDepth 100000
namespace Mine
open PySem PyProof.Rows
section
variable {M : Model} {A : Around} {E : Value → Shared → Prop} {s : Shared} {κ : SortKind} {S : KRow → Prop} {K : KRow → Int}
def putBack (arr merged : Array KRow) (sa : Nat) : Array KRow := merged.toList.zipIdx.foldl (fun a (p : KRow × Nat) => a.setIfInBounds (sa + p.2) p.1) arr
theorem put_go (sa : Nat) : ∀ (l : List KRow) (n : Nat) (arr : Array KRow), ((l.zipIdx n).foldl (fun a (p : KRow × Nat) => a.setIfInBounds (sa + p.2) p.1) arr).size = arr.size ∧
    ∀ i, ((l.zipIdx n).foldl (fun a (p : KRow × Nat) => a.setIfInBounds (sa + p.2) p.1) arr)[i]? = if sa + n ≤ i ∧ i < sa + n + l.length ∧ i < arr.size then l[i - (sa + n)]? else arr[i]?
  | [], n, arr => ⟨rfl, fun i => by rw [if_neg (by simp only [List.length_nil]; (exact a115 ))]; rfl⟩
  | x :: l, n, arr => by
    rw [List.zipIdx_cons, List.foldl_cons]
    obtain ⟨h1, h2⟩ := put_go sa l (n + 1) (arr.setIfInBounds (sa + n) x)
    refine ⟨h1.trans (Array.size_setIfInBounds ..), fun i => ?_⟩
    rw [h2 i, Array.size_setIfInBounds, Array.getElem?_setIfInBounds]
    simp only [List.length_cons]
    by_cases hi : sa + n = i
    · subst hi
      rw [if_neg (by (exact a123 )), if_pos rfl]
      by_cases hs : sa + n < arr.size
      · rw [if_pos hs, if_pos ⟨by (exact a128 ), by (exact a133 ), hs⟩]; simp
      · rw [if_neg hs, if_neg (by (exact a137 hs))]
        exact (Array.getElem?_eq_none (by (exact a142 hs))).symm
    · by_cases hc : sa + (n + 1) ≤ i ∧ i < sa + (n + 1) + l.length ∧ i < arr.size
      · rw [if_pos hc, if_pos ⟨by (exact a145 hc), by (exact a148 hc), hc.2.2⟩]
        rw [show i - (sa + n) = (i - (sa + (n + 1))) + 1 by (exact a153 hc)]; simp
      · rw [if_neg hc, if_neg hi, if_neg (by (exact a158 hc hi))]
theorem put_get (arr merged : Array KRow) (sa i : Nat) (h : sa + merged.size ≤ arr.size) : (putBack arr merged sa)[i]? = if sa ≤ i ∧ i < sa + merged.size then merged[i - sa]? else arr[i]? := by
  have := (put_go sa merged.toList 0 arr).2 i
  unfold putBack
  rw [this]
  simp only [Nat.add_zero, Array.length_toList]
  by_cases hc : sa ≤ i ∧ i < sa + merged.size
  · rw [if_pos hc, if_pos ⟨hc.1, hc.2, by (exact a120 h hc)⟩]; simp
  · rw [if_neg hc, if_neg (by (exact a124 hc))]
theorem put_list (arr merged : Array KRow) (sa : Nat) (h : sa + merged.size ≤ arr.size) : (putBack arr merged sa).toList = arr.toList.take sa ++ (merged.toList ++ arr.toList.drop (sa + merged.size)) := by
  apply List.ext_getElem?
  intro i
  rw [Array.getElem?_toList, put_get _ _ _ _ h]
  by_cases h1 : i < sa
  · rw [if_neg (by (exact a119 h1)), List.getElem?_append_left (by simp; (exact a121 h h1)), List.getElem?_take, if_pos h1]; simp
  · rw [List.getElem?_append_right (by simp; (exact a127 h1))]
    have e : (arr.toList.take sa).length = sa := by simp; (exact a132 h)
    rw [e]
    by_cases h2 : i < sa + merged.size
    · rw [if_pos ⟨by (exact a29 h1), h2⟩, List.getElem?_append_left (by simp; (exact a135 h2 h1))]; simp
    · rw [if_neg (by (exact a140 h2)), List.getElem?_append_right (by simp; (exact a143 h2)), List.getElem?_drop]
      simp only [Array.length_toList, Array.getElem?_toList]
      congr 1; (exact a146 h2)
structure SB (κ : SortKind) (a₀ : Array KRow) (st : SortSt) : Prop where
  perm : (arrOf st).toList.Perm a₀.toList
  kind : PyProof.Rows.kindOf st = κ
  failed : failedOf st = none
variable {a₀ : Array KRow}
theorem SB.size {st : SortSt} (h : SB κ a₀ st) : (arrOf st).size = a₀.size := by have := h.perm.length_eq; simpa using this
theorem SB.allS {st : SortSt} (h : SB κ a₀ st) (hS : AllS S a₀) : AllS S (arrOf st) := fun i x hx => by
  have hm : x ∈ (arrOf st).toList := by
    have := (Array.getElem?_eq_some_iff.mp hx).2
    rw [← this]; simp
  have hm' := h.perm.mem_iff.mp hm
  obtain ⟨j, hj, e⟩ := List.getElem_of_mem hm'
  refine hS j x ?_
  have hj' : j < a₀.size := by simpa using hj
  rw [getElem?_pos a₀ j hj']
  congr 1
theorem AllS.extract {a : Array KRow} (h : AllS S a) (i j : Nat) : AllS S (a.extract i j) := fun k x hx => by
  rw [Array.getElem?_extract] at hx
  split at hx
  · exact h _ _ hx
  · cases hx
theorem asc_of_on {a : Array KRow} {i j : Nat} (h : SortedOn K a i j) (hj : j ≤ a.size) : Asc K (a.extract i j).toList := by
  refine List.pairwise_iff_getElem.mpr fun p q hp hq hpq => ?_
  have hp' : p < j - i := by have := hp; simp at this; (exact a170 this)
  have hq' : q < j - i := by have := hq; simp at this; (exact a170 this)
  have e1 : a[i + p]? = some (a.extract i j).toList[p] := by
    rw [getElem?_pos a (i + p) (by (exact a174 hp' hj))]; congr 1; simp
  have e2 : a[i + q]? = some (a.extract i j).toList[q] := by
    rw [getElem?_pos a (i + q) (by (exact a174 hq' hj))]; congr 1; simp
  have := h (i + p) (i + q) (by (exact a54 )) (by (exact a184 hpq)) (by (exact a185 hq'))
  rwa [kk_of e1, kk_of e2] at this
theorem mem_ext_iff {a : Array KRow} {i j : Nat} {z : KRow} : z ∈ (a.extract i j).toList ↔ ∃ p, i ≤ p ∧ p < j ∧ a[p]? = some z := by
  rw [extract_td]; exact mem_td_iff
theorem wpS_set {σ : Type} {st st' : σ} {Q : PUnit → σ → Prop} (h : Q ⟨⟩ st') : PyProof.Rows.wpS M A E s (set st' : StateT σ Sem PUnit) Q st := by
  unfold PyProof.Rows.wpS; rw [StateT.run_set]; exact wpAny_pure ⟨rfl, h⟩
theorem mergeAt_ok {st : SortSt} {i sa na sb nb pw pw' : Nat} {Q : Bool → SortSt → Prop} (L : LtOk M A E s κ S K) (hS : AllS S a₀) (B : SB κ a₀ st) (p1 : (pendingOf st)[i]? = some (sa, na, pw)) (p2 : (pendingOf st)[i + 1]? = some (sb, nb, pw'))
    (hna : 1 ≤ na) (hnb : 1 ≤ nb) (hab : sb = sa + na) (hsz : sb + nb ≤ a₀.size) (h1 : SortedOn K (arrOf st) sa sb) (h2 : SortedOn K (arrOf st) sb (sb + nb))
    (h : ∀ st', SB κ a₀ st' → pendingOf st' = ((pendingOf st).setIfInBounds i (sa, na + nb, pw)).eraseIdxIfInBounds (i + 1) → (∀ j, j < sa ∨ sb + nb ≤ j → (arrOf st')[j]? = (arrOf st)[j]?) → SortedOn K (arrOf st') sa (sb + nb) → Q true st') :
    PyProof.Rows.wpS M A E s (mergeAt' i) Q st := by
  have hS' := B.allS hS
  have hs' : (arrOf st).size = a₀.size := B.size
  unfold mergeAt'
  refine wpS_bind (wpS_get ?_)
  have e1 : (sortPriv% PySem.Builtin.SortState.pending) st = pendingOf st := rfl
  simp only [e1, p1, p2]
  refine wpS_bind (wpS_set ?_)
  generalize hp' : ((pendingOf st).setIfInBounds i (sa, na + nb, pw)).eraseIdxIfInBounds (i + 1) = p' at h ⊢
  have B₁ : SB κ a₀ (SortSt.mk' (PyProof.Rows.kindOf st) (arrOf st) p' (gallopOf st) (failedOf st)) := ⟨B.perm, B.kind, B.failed⟩
  refine wpS_bind (elem_ok (K := K) (by show sb < (arrOf st).size; (exact a178 hsz hnb hs')) fun key hkey hkk => ?_)
  refine wpS_bind (gallop_ok L (hS' _ _ hkey) hS' B.kind (by show sa + na ≤ (arrOf st).size; (exact a182 hsz hs' hab)) (by (exact a86 hna)) (by rw [← hab]; exact h1) fun k hk hlo hhi => ?_)
  simp only [Bool.false_eq_true, if_false] at hlo hhi
  have hlo : ∀ i, i < k → kk K (arrOf st) (sa + i) < K key + 1 := hlo
  have hhi : ∀ i, k ≤ i → i < na → ¬ kk K (arrOf st) (sa + i) < K key + 1 := hhi
  dsimp only
  have hk0 : kk K (arrOf st) sb = K key := kk_of hkey
  by_cases c1 : (na - k == 0) = true
  · rw [if_pos c1]
    have c1 := beq_eq c1
    refine wpS_pure (h _ B₁ rfl (fun _ _ => rfl) fun x y hx hxy hy => ?_)
    show kk K (arrOf st) x ≤ kk K (arrOf st) y
    by_cases hy1 : y < sb
    · exact h1 x y hx hxy hy1
    · by_cases hx1 : x < sb
      · have q1 := hlo (x - sa) (by (exact a190 ‹_› hna hx1 hab))
        rw [show sa + (x - sa) = x by (exact a25 hx)] at q1
        have q2 := h2 sb y (Nat.le_refl _) (by (exact a29 hy1)) hy
        (exact a205 q1 hkk q2)
      · exact h2 x y (by (exact a29 hx1)) hxy hy
  rw [if_neg c1]
  have c1 : ¬ na - k = 0 := by simpa using c1
  refine wpS_bind (elem_ok (K := K) (by show sa + k + (na - k) - 1 < (arrOf st).size; (exact a221 hsz hna hs' hab ‹_›)) fun last hlast hkl => ?_)
  have hlast : (arrOf st)[sb - 1]? = some last := by rw [show sb - 1 = sa + k + (na - k) - 1 by (exact a227 hna hab ‹_›)]; exact hlast
  have hl0 : kk K (arrOf st) (sb - 1) = K last := kk_of hlast
  refine wpS_bind (gallop_ok L (hS' _ _ hlast) hS' B.kind (by show sb + nb ≤ (arrOf st).size; (exact a236 hsz hs')) (by (exact a151 hnb)) h2 fun nb' hnb' hlo2 hhi2 => ?_)
  simp only [if_true, Int.add_zero] at hlo2 hhi2
  have hlo2 : ∀ i, i < nb' → kk K (arrOf st) (sb + i) < K last := hlo2
  have hhi2 : ∀ i, nb' ≤ i → i < nb → ¬ kk K (arrOf st) (sb + i) < K last := hhi2
  dsimp only
  by_cases c2 : (nb' == 0) = true
  · rw [if_pos c2]
    have c2 := beq_eq c2
    refine wpS_pure (h _ B₁ rfl (fun _ _ => rfl) fun x y hx hxy hy => ?_)
    show kk K (arrOf st) x ≤ kk K (arrOf st) y
    by_cases hy1 : y < sb
    · exact h1 x y hx hxy hy1
    · by_cases hx1 : x < sb
      · have q1 := hhi2 (y - sb) (by (exact a244 ‹_›)) (by (exact a248 hnb hy))
        rw [show sb + (y - sb) = y by (exact a259 hy1)] at q1
        have q2 := h1 x (sb - 1) hx (by (exact a198 hx1)) (by (exact a264 hna hab))
        (exact a267 q2 hl0 q1)
      · exact h2 x y (by (exact a29 hx1)) hxy hy
  rw [if_neg c2]
  have c2 : ¬ nb' = 0 := by simpa using c2
  have zx : ((arrOf st).extract (sa + k) sb).size = na - k := by simp; (exact a275 hsz hab hs' ‹_›)
  have zy : ((arrOf st).extract sb (sb + nb')).size = nb' := by simp; (exact a280 hsz hnb' hs')
  have ax : Asc K ((arrOf st).extract (sa + k) sb).toList := asc_of_on (fun x y hx hxy hy => h1 x y (by (exact a222 hx)) hxy hy) (by (exact a284 hsz hs'))
  have ay : Asc K ((arrOf st).extract sb (sb + nb')).toList := asc_of_on (fun x y hx hxy hy => h2 x y hx hxy (by (exact a286 hy hnb'))) (by (exact a292 hsz hnb' hs'))
  have bx : ∀ z ∈ ((arrOf st).extract (sa + k) sb).toList, K key + 1 ≤ K z ∧ K z ≤ K last := fun z hz => by
    obtain ⟨p, q1, q2, q3⟩ := mem_ext_iff.mp hz
    have q4 := hhi (p - sa) (by (exact a251 q1)) (by (exact a299 hna q2 hab))
    rw [show sa + (p - sa) = p by (exact a257 q1), kk_of q3] at q4
    have q5 := h1 p (sb - 1) (by (exact a222 q1)) (by (exact a198 q2)) (by (exact a264 hna hab))
    rw [kk_of q3] at q5
    (exact a308 q5 hl0 q4)
  have by' : ∀ z ∈ ((arrOf st).extract sb (sb + nb')).toList, K key ≤ K z ∧ K z < K last := fun z hz => by
    obtain ⟨p, q1, q2, q3⟩ := mem_ext_iff.mp hz
    have q4 := hlo2 (p - sb) (by (exact a312 q2 ‹_›))
    rw [show sb + (p - sb) = p by (exact a25 q1), kk_of q3] at q4
    have q5 := h2 sb p (Nat.le_refl _) q1 (by (exact a286 q2 hnb'))
    rw [kk_of q3] at q5
    (exact a317 q4 hkk q5)
  have c0 : ∀ x ∈ ((arrOf st).extract sb (sb + nb')).toList.take 1, ∀ z ∈ ((arrOf st).extract (sa + k) sb).toList, K x ≤ K z := fun x hx z hz => by
    obtain ⟨p, q1, q2⟩ := mem_take_iff.mp hx
    have : p = 0 := by (exact a318 q1)
    subst this
    rw [Array.getElem?_extract, if_pos (by (first | lia | omega)), Nat.add_zero, hkey] at q2
    cases q2
    have := (bx z hz).1; (exact a187 this)
  have cl : ∀ x ∈ ((arrOf st).extract (sa + k) sb).toList.drop (((arrOf st).extract (sa + k) sb).size - 1), ∀ y ∈ ((arrOf st).extract sb (sb + nb')).toList, K y ≤ K x := fun x hx y hy => by
    obtain ⟨p, q2⟩ := mem_drop_iff.mp hx
    have hp := size_of q2
    rw [Array.getElem?_extract, if_pos (by (first | lia | omega)), show sa + k + (((arrOf st).extract (sa + k) sb).size - 1 + p) = sb - 1 by (exact a340 hp zx hab ‹_›), hlast] at q2
    cases q2
    exact Int.le_of_lt (by' y hy).2
  have hkl' : K key + 1 ≤ K last := by
    have := hhi (sb - 1 - sa) (by (exact a346 hk hab ‹_›)) (by (exact a349 hna hab))
    rw [show sa + (sb - 1 - sa) = sb - 1 by (exact a355 hna hab)] at this
    (exact a358 hl0 this)
  have fin : ∀ merged st₂, Rs K ((arrOf st).extract (sa + k) sb) ((arrOf st).extract sb (sb + nb')) merged → SameG (SortSt.mk' (PyProof.Rows.kindOf st) (arrOf st) p' (gallopOf st) (failedOf st)) st₂ →
      Q true (SortSt.mk' (PyProof.Rows.kindOf st₂) (putBack (arrOf st₂) merged (sa + k)) (pendingOf st₂) (gallopOf st₂) (failedOf st₂)) := by
    rintro merged st₂ ⟨hperm, hasc⟩ ⟨g, rfl⟩
    have msz : merged.size = na - k + nb' := by
      have := hperm.length_eq; simp only [List.length_append, Array.length_toList, zx, zy] at this; exact this
    have hfit : sa + k + merged.size ≤ (arrOf st).size := by (exact a361 hsz msz hs' hab hnb' ‹_›)
    refine h _ ⟨?_, B.kind, B.failed⟩ rfl (fun j hj => ?_) fun x y hx hxy hy => ?_
    · show (putBack (arrOf st) merged (sa + k)).toList.Perm a₀.toList
      refine List.Perm.trans ?_ B.perm
      rw [put_list _ _ _ hfit]
      have e : (arrOf st).toList = (arrOf st).toList.take (sa + k) ++ ((((arrOf st).extract (sa + k) sb).toList ++ ((arrOf st).extract sb (sb + nb')).toList) ++ (arrOf st).toList.drop (sa + k + merged.size)) := by
        rw [extract_td, extract_td, msz, show sa + k + (na - k + nb') = sb + nb' by (exact a364 hab ‹_›), List.append_assoc]
        rw [← drop_split (arrOf st).toList (show sb ≤ sb + nb' by (exact a54 )), ← drop_split (arrOf st).toList (show sa + k ≤ sb by (exact a380 hk hab)), List.take_append_drop]
      have := ((hperm.append_right ((arrOf st).toList.drop (sa + k + merged.size))).append_left ((arrOf st).toList.take (sa + k)))
      rw [← e] at this
      exact this
    · show (putBack (arrOf st) merged (sa + k))[j]? = (arrOf st)[j]?
      rw [put_get _ _ _ _ hfit, if_neg (by (exact a384 hj msz hab hnb' ‹_›))]
    · show kk K (putBack (arrOf st) merged (sa + k)) x ≤ kk K (putBack (arrOf st) merged (sa + k)) y
      have val : ∀ p, sa ≤ p → p < sb + nb → (p < sa + k ∧ kk K (putBack (arrOf st) merged (sa + k)) p = kk K (arrOf st) p ∧ kk K (arrOf st) p ≤ K key) ∨
          (sa + k ≤ p ∧ p < sb + nb' ∧ ∃ z, merged[p - (sa + k)]? = some z ∧ kk K (putBack (arrOf st) merged (sa + k)) p = K z ∧ K key ≤ K z ∧ K z ≤ K last) ∨
          (sb + nb' ≤ p ∧ kk K (putBack (arrOf st) merged (sa + k)) p = kk K (arrOf st) p ∧ K last ≤ kk K (arrOf st) p) := by
        intro p hp1 hp2
        by_cases g1 : p < sa + k
        · refine .inl ⟨g1, ?_, ?_⟩
          · unfold kk; rw [put_get _ _ _ _ hfit, if_neg (by (exact a392 g1))]
          · have := hlo (p - sa) (by (exact a245 g1 hp1))
            rw [show sa + (p - sa) = p by (exact a25 hp1)] at this; (exact a321 this)
        · by_cases g2 : p < sb + nb'
          · have hm : p - (sa + k) < merged.size := by (exact a400 g2 msz hab ‹_› ‹_›)
            have e := getElem?_pos merged (p - (sa + k)) hm
            have hz : merged[p - (sa + k)] ∈ ((arrOf st).extract (sa + k) sb).toList ++ ((arrOf st).extract sb (sb + nb')).toList := hperm.mem_iff.mp (by simp)
            refine .inr (.inl ⟨by (exact a403 g1), g2, _, e, ?_, ?_⟩)
            · unfold kk; rw [put_get _ _ _ _ hfit, if_pos (by (exact a404 g2 msz hab g1)), e]
            · rcases List.mem_append.mp hz with hz | hz
              · have := bx _ hz; (exact a408 this)
              · have := by' _ hz; (exact a410 this)
          · refine .inr (.inr ⟨by (exact a403 g2), ?_, ?_⟩)
            · unfold kk; rw [put_get _ _ _ _ hfit, if_neg (by (exact a412 msz hab ‹_› g2))]
            · have := hhi2 (p - sb) (by (exact a143 g2)) (by (exact a248 hnb hp2))
              rw [show sb + (p - sb) = p by (exact a419 g2)] at this; (exact a87 this)
      rcases val x hx (by (exact a427 hxy hy)) with ⟨v1, v2, v3⟩ | ⟨v1, v1', z, v2, v3, v4, v5⟩ | ⟨v1, v2, v3⟩ <;> rcases val y (by (first | exact a214 hx hxy | exact a433 v1 hxy hab)) hy with ⟨w1, w2, w3⟩ | ⟨w1, w1', z', w2, w3, w4, w5⟩ | ⟨w1, w2, w3⟩ <;> first
        | (first | exact a437 v2 w3 v3 w4 | exact a438 hkl' v2 w2 v3 w3 | exact (a441 v1 hxy w1).elim | exact a437 v3 w2 v5 w3 | exact (a451 v1 hk w1 hab hxy).elim | exact (a441 v1 hxy w1').elim)
        | (rw [v2, w2]; exact h1 x y hx hxy (by (exact a435 w1 hab hk)))
        | (rw [v3, w3]; exact asc_at hasc (show x - (sa + k) ≤ y - (sa + k) by (exact a447 hxy)) v2 w2)
        | (rw [v2, w2]; exact h2 x y (by (exact a222 v1)) hxy hy)
  have last_step : ∀ merged st₂, Rs K ((arrOf st).extract (sa + k) sb) ((arrOf st).extract sb (sb + nb')) merged → SameG (SortSt.mk' (PyProof.Rows.kindOf st) (arrOf st) p' (gallopOf st) (failedOf st)) st₂ → failedOf st₂ = none := by
    rintro merged st₂ _ ⟨g, rfl⟩; exact B.failed
  split
  · refine wpS_bind (mergeLo_ok L (hS'.extract _ _) (hS'.extract _ _) B.kind (by show 1 ≤ ((arrOf st).extract (sa + k) sb).size; (exact a452 zx ‹_›)) (by show 1 ≤ ((arrOf st).extract sb (sb + nb')).size; (exact a455 zy ‹_›)) ax ay c0 cl fun merged st₂ hR sg => ?_)
    refine wpS_bind (wpS_modify (wpS_bind (wpS_get (wpS_pure ?_))))
    have hf := last_step merged st₂ hR sg
    have := fin merged st₂ hR sg
    show Q (failedOf st₂).isNone _
    rw [hf]; exact this
  · refine wpS_bind (mergeHi_ok L (hS'.extract _ _) (hS'.extract _ _) B.kind (by show 1 ≤ ((arrOf st).extract (sa + k) sb).size; (exact a452 zx ‹_›)) (by show 1 ≤ ((arrOf st).extract sb (sb + nb')).size; (exact a455 zy ‹_›)) ax ay c0 cl fun merged st₂ hR sg => ?_)
    refine wpS_bind (wpS_modify (wpS_bind (wpS_get (wpS_pure ?_))))
    have hf := last_step merged st₂ hR sg
    have := fin merged st₂ hR sg
    show Q (failedOf st₂).isNone _
    rw [hf]; exact this
end
end Mine

set_option autoImplicit false
set_option maxHeartbeats 4000000
set_option maxRecDepth 100000
namespace Mine
open PySem PyProof.Rows
section
variable {M : Model} {A : Around} {E : Value → Shared → Prop} {s : Shared} {κ : SortKind} {S : KRow → Prop} {K : KRow → Int} {a₀ : Array KRow}
theorem ltAt_ok {st : SortSt} {i j : Nat} {Q : Option Bool → SortSt → Prop} (L : LtOk M A E s κ S K) (hS : AllS S a₀) (B : SB κ a₀ st) (hi : i < a₀.size) (hj : j < a₀.size)
    (h : Q (some (decide (kk K (arrOf st) i < kk K (arrOf st) j))) st) : PyProof.Rows.wpS M A E s (ltAt' i j) Q st := by
  have hz := B.size
  have hS' := B.allS hS
  rw [ltAt'_eq]
  refine wpS_bind (wpS_get ?_)
  refine wpS_bind (elem_ok (K := K) (by show i < (arrOf st).size; (exact a113 hi hz)) fun x hx hkx => ?_)
  refine wpS_bind (elem_ok (K := K) (by show j < (arrOf st).size; (exact a113 hj hz)) fun y hy hky => ?_)
  have hkx : kk K (arrOf st) i = K x := hkx
  have hky : kk K (arrOf st) j = K y := hky
  rw [hkx, hky] at h
  exact L _ _ _ _ (hS' _ _ hx) (hS' _ _ hy) B.kind h
structure Frm (lo hi : Nat) (st st' : SortSt) : Prop where
  pend : pendingOf st' = pendingOf st
  out : ∀ j, j < lo ∨ hi ≤ j → (arrOf st')[j]? = (arrOf st)[j]?
theorem Frm.refl (lo hi : Nat) (st : SortSt) : Frm lo hi st st := ⟨rfl, fun _ _ => rfl⟩
theorem Frm.trans {lo hi : Nat} {a b c : SortSt} (x : Frm lo hi a b) (y : Frm lo hi b c) : Frm lo hi a c := ⟨y.pend.trans x.pend, fun j hj => (y.out j hj).trans (x.out j hj)⟩
theorem Frm.up {lo hi hi' : Nat} {a b : SortSt} (x : Frm lo hi a b) (h : hi ≤ hi') : Frm lo hi' a b := ⟨x.pend, fun j hj => x.out j (by (exact a118 hj h))⟩
theorem SB.arr {st : SortSt} (B : SB κ a₀ st) {xs : Array KRow} (hp : xs.Perm (arrOf st)) : SB κ a₀ (setArr st xs) := ⟨(Array.perm_iff_toList_perm.mp hp).trans B.perm, B.kind, B.failed⟩
theorem kk_bubble {xs : Array KRow} {src d : Nat} (hs : src < xs.size) (hd : d ≤ src) (k : Nat) : kk K (bubble xs src d) k = if k = src - d then kk K xs src else if src - d < k ∧ k ≤ src then kk K xs (k - 1) else kk K xs k := by
  have e := getElem?_bubble hs d hd k
  unfold kk
  rw [e]
  repeat' split
  all_goals first | rfl | (exfalso; (first | lia | omega)) | simp_all
theorem binarySort_ok {st : SortSt} {lo n ok : Nat} {Q : Bool → SortSt → Prop} (L : LtOk M A E s κ S K) (hS : AllS S a₀) (B : SB κ a₀ st) (hn : lo + n ≤ a₀.size) (hok : ok ≤ n) (hs : SortedOn K (arrOf st) lo (lo + ok))
    (h : ∀ st', SB κ a₀ st' → Frm lo (lo + n) st st' → SortedOn K (arrOf st') lo (lo + n) → Q true st') : PyProof.Rows.wpS M A E s (binarySort' lo n ok) Q st := by
  rw [binarySort'_eq]
  refine wpS_bind (wpS_mono (wpS_forRange (I := fun k c st' => c = (none, ()) ∧ SB κ a₀ st' ∧ Frm lo (lo + n) st st' ∧ SortedOn K (arrOf st') lo (lo + min k n))
    (Q := fun c st' => c = (none, ()) ∧ SB κ a₀ st' ∧ Frm lo (lo + n) st st' ∧ SortedOn K (arrOf st') lo (lo + n)) ?step ?fin ?init) ?post)
  case post =>
    rintro c st' ⟨rfl, B', F', hs'⟩
    exact wpS_pure (h st' B' F' hs')
  case init =>
    refine ⟨rfl, B, .refl _ _ _, fun i j hi hij hj => ?_⟩
    by_cases h1 : ok = 0
    · have : i = j := by (exact a125 hij hj h1 hi)
      subst this; exact Int.le_refl _
    · exact hs i j hi hij (by (exact a129 hj h1))
  case fin =>
    rintro c st' ⟨hc, B', F', hs'⟩
    refine ⟨hc, B', F', ?_⟩
    rwa [show min (max (max ok 1) n) n = n by (exact a134 )] at hs'
  case step =>
    rintro k c st' hak hkn ⟨rfl, B', F', hs'⟩
    rw [show min k n = k by (exact a139 hkn)] at hs'
    have hz := B'.size
    refine wpS_bind (wpS_mono (wpS_forRange (I := fun x c st'' => st' = st'' ∧ ∃ l r, c = (none, l, r) ∧ l ≤ r ∧ r ≤ k ∧ r - l ≤ k - x ∧
        (∀ i, i < l → kk K (arrOf st') (lo + i) ≤ kk K (arrOf st') (lo + k)) ∧ (∀ i, r ≤ i → i < k → kk K (arrOf st') (lo + k) < kk K (arrOf st') (lo + i)))
      (Q := fun c st'' => st' = st'' ∧ ∃ l r, c = (none, l, r) ∧ l ≤ k ∧
        (∀ i, i < l → kk K (arrOf st') (lo + i) ≤ kk K (arrOf st') (lo + k)) ∧ (∀ i, l ≤ i → i < k → kk K (arrOf st') (lo + k) < kk K (arrOf st') (lo + i))) ?istep ?ifin ?iinit) ?ipost)
    case iinit => exact ⟨rfl, 0, k, rfl, by (exact a111 ), by (exact a147 ), by (exact a150 ), fun i hi => by (exact (a152 hi).elim), fun i h1 h2 => by (exact (a156 h2 h1).elim)⟩
    case ifin =>
      rintro c st'' ⟨rfl, l, r, rfl, hlr, hrk, hm, hlo, hhi⟩
      have : l = r := by (exact a109 hm hlr)
      subst this
      exact ⟨rfl, l, l, rfl, hrk, hlo, hhi⟩
    case istep =>
      rintro x c st'' _ hxk ⟨rfl, l, r, rfl, hlr, hrk, hm, hlo, hhi⟩
      dsimp only
      by_cases hge : l ≥ r
      · rw [if_pos hge]
        have : l = r := by (exact a88 hlr hge)
        subst this
        exact wpS_pure ⟨rfl, l, l, rfl, hrk, hlo, hhi⟩
      · rw [if_neg hge]
        refine wpS_bind (ltAt_ok L hS B' (by (exact a59 hn hkn)) (by (exact a166 hn hrk hkn hge)) ?_)
        by_cases hless : kk K (arrOf st') (lo + k) < kk K (arrOf st') (lo + (l + r) / 2)
        · simp only [hless, decide_true, if_true]
          refine wpS_pure ⟨rfl, l, (l + r) / 2, rfl, by (exact a168 hge), by (exact a172 hrk hge), by (exact a175 hm hxk), hlo, fun i h1 h2 => ?_⟩
          exact Int.lt_of_lt_of_le hless (hs' _ _ (by (exact a180 )) (by (exact a183 h1)) (by (exact a57 h2)))
        · simp only [hless, decide_false, Bool.false_eq_true, if_false]
          refine wpS_pure ⟨rfl, (l + r) / 2 + 1, r, rfl, by (exact a188 hge), by (exact hrk), by (exact a199 hm hlr hxk), fun i h1 => ?_, hhi⟩
          exact Int.le_trans (hs' (lo + i) (lo + (l + r) / 2) (by (exact a54 )) (by (exact a209 h1)) (by (exact a216 hrk hge))) (Int.not_lt.mp hless)
    case ipost =>
      rintro c st'' ⟨rfl, l, r, rfl, hlk, hlo, hhi⟩
      show PyProof.Rows.wpS _ _ _ _ (do moveDown' (lo + k) (lo + l); pure (ForInStep.yield (none, ()))) _ _
      rw [moveDown'_eq]
      have hks : lo + k < (arrOf st').size := by (exact a218 hn hkn hz)
      refine wpS_bind (wpS_modify (wpS_pure ⟨rfl, B'.arr (bubble_perm _ _ _), F'.trans ⟨rfl, fun j hj => ?_⟩, ?_⟩))
      · show (bubble (arrOf st') (lo + k) (lo + k - (lo + l)))[j]? = _
        rw [getElem?_bubble hks _ (by (exact a223 )), if_neg (by (exact a230 hj hkn hlk)), if_neg (by (exact a237 hj hkn hlk))]
      · rw [show min (k + 1) n = k + 1 by (exact a239 hkn)]
        intro i j hi hij hj
        show kk K (bubble (arrOf st') (lo + k) (lo + k - (lo + l))) i ≤ kk K (bubble (arrOf st') (lo + k) (lo + k - (lo + l))) j
        rw [kk_bubble hks (by (exact a223 )), kk_bubble hks (by (exact a223 )), show lo + k - (lo + k - (lo + l)) = lo + l by (exact a243 hlk)]
        have g1 : ∀ p, lo ≤ p → p < lo + l → kk K (arrOf st') p ≤ kk K (arrOf st') (lo + k) := fun p h1 h2 => by
          have := hlo (p - lo) (by (exact a245 h2 h1)); rwa [show lo + (p - lo) = p by (exact a25 h1)] at this
        have g2 : ∀ p, lo + l ≤ p → p < lo + k → kk K (arrOf st') (lo + k) ≤ kk K (arrOf st') p := fun p h1 h2 => by
          have := hhi (p - lo) (by (exact a251 h1)) (by (exact a255 h1 h2)); rw [show lo + (p - lo) = p by (exact a257 h1)] at this; exact Int.le_of_lt this
        repeat' split
        all_goals first
          | (exfalso; (first | exact a276 ‹_› hij hj ‹_› ‹_› | exact a277 ‹_› hij ‹_› | exact a294 ‹_› hij hj ‹_› ‹_›))
          | exact Int.le_refl _
          | exact g1 _ (by (exact hi)) (by (first | exact a298 hij ‹_› ‹_› | exact a303 hij hj ‹_› ‹_› | exact a311 hij hj ‹_› ‹_› ‹_›))
          | exact g2 _ (by (exact a270 ‹_› hij ‹_›)) (by (exact a274 hj ‹_› hij ‹_›))
          | exact hs' _ _ (by (first | exact a287 ‹_› | exact hi)) (by (first | exact a289 ‹_› hij | exact a305 ‹_› hij ‹_› ‹_› | exact hij)) (by (first | exact a291 ‹_› hj hij | exact a307 ‹_› | exact a315 hj hlk ‹_› ‹_›))
end
end Mine

set_option autoImplicit false
set_option maxHeartbeats 4000000
set_option maxRecDepth 100000
namespace Mine
open PySem PyProof.Rows
section
variable {M : Model} {A : Around} {E : Value → Shared → Prop} {s : Shared} {κ : SortKind} {S : KRow → Prop} {K : KRow → Int} {a₀ : Array KRow}
theorem kk_mirror {xs : Array KRow} {i j : Nat} (hj : j ≤ xs.size) (k : Nat) : kk K (mirror xs i j ((j - i) / 2)) k = if i ≤ k ∧ k < j then kk K xs (i + j - 1 - k) else kk K xs k := by
  have e := getElem?_mirror_all (i := i) hj k
  by_cases hc : i ≤ k ∧ k < j
  · rw [if_pos hc] at e ⊢; unfold kk; rw [e]
  · rw [if_neg hc] at e ⊢; unfold kk; rw [e]
theorem rev_ok {st : SortSt} {i j lo hi : Nat} {Q : Unit → SortSt → Prop} (B : SB κ a₀ st) (hj : j ≤ a₀.size) (hi1 : lo ≤ i) (hj1 : j ≤ hi)
    (h : ∀ st', SB κ a₀ st' → Frm lo hi st st' → (∀ k, kk K (arrOf st') k = if i ≤ k ∧ k < j then kk K (arrOf st) (i + j - 1 - k) else kk K (arrOf st) k) → Q () st') : PyProof.Rows.wpS M A E s (reverseSlice' i j) Q st := by
  have hz := B.size
  rw [reverseSlice'_eq]
  refine wpS_modify (h _ (B.arr (mirror_perm _ _ _ _)) ⟨rfl, fun k hk => ?_⟩ fun k => kk_mirror (by (exact a194 hj hz)) k)
  show (mirror (arrOf st) i j ((j - i) / 2))[k]? = _
  rw [getElem?_mirror_all (by (exact a194 hj hz)), if_neg (by (exact a196 hk hj1 hi1))]
def Dec (K : KRow → Int) (a : Array KRow) (lo hi : Nat) : Prop := ∀ i j, lo ≤ i → i ≤ j → j < hi → kk K a j ≤ kk K a i
theorem dec_of {a : Array KRow} {lo n : Nat} (hs : SortedOn K a lo (lo + n)) (he : kk K a (lo + n - 1) ≤ kk K a lo) (hn : 1 ≤ n) (hl : kk K a (lo + n) < kk K a (lo + n - 1)) : Dec K a lo (lo + (n + 1)) := by
  intro i j hi hij hj
  have h1 : ∀ p, lo ≤ p → p < lo + n → kk K a p = kk K a lo := fun p h1 h2 => by
    have := hs lo p (Nat.le_refl _) h1 h2
    have := hs p (lo + n - 1) h1 (by (exact a193 h2)) (by (exact a195 hn))
    (exact a200 this ‹_› he)
  have h2 := h1 (lo + n - 1) (by (exact a202 hn)) (by (exact a195 hn))
  by_cases hjn : j = lo + n
  · subst hjn
    by_cases hin : i = lo + n
    · subst hin; exact Int.le_refl _
    · rw [h1 i hi (by (exact a204 hij hin))]; (exact a207 hl h2)
  · rw [h1 i hi (by (exact a208 hij hj hjn)), h1 j (by (exact a214 hi hij)) (by (exact a201 hj hjn))]; exact Int.le_refl _
theorem one_on {a : Array KRow} (lo : Nat) : SortedOn K a lo (lo + 1) := fun i j h1 h2 h3 => by
  have : i = j := by (exact a191 h2 h3 h1)
  subst this; exact Int.le_refl _
theorem asc_step {a : Array KRow} {lo x : Nat} (hs : SortedOn K a lo (lo + x)) (hx : 1 ≤ x) (hl : kk K a (lo + x - 1) ≤ kk K a (lo + x)) : SortedOn K a lo (lo + (x + 1)) := fun i j h1 h2 h3 => by
  by_cases hj : j = lo + x
  · subst hj
    by_cases hi : i = lo + x
    · subst hi; exact Int.le_refl _
    · have := hs i (lo + x - 1) h1 (by (exact a192 h2 hi)) (by (exact a195 hx)); (exact a197 this hl)
  · exact hs i j h1 h2 (by (exact a201 h3 hj))
theorem countRun_ok {st : SortSt} {lo nrem : Nat} {Q : Option Nat → SortSt → Prop} (L : LtOk M A E s κ S K) (hS : AllS S a₀) (B : SB κ a₀ st) (hn : lo + nrem ≤ a₀.size) (h1 : 1 ≤ nrem)
    (h : ∀ n st', SB κ a₀ st' → 1 ≤ n → n ≤ nrem → Frm lo (lo + n) st st' → SortedOn K (arrOf st') lo (lo + n) → Q (some n) st') : PyProof.Rows.wpS M A E s (countRun' lo nrem) Q st := by
  unfold countRun'
  refine wpS_bind (wpS_mono (wpS_forRange (I := fun x c st' => st = st' ∧ c = (none, x) ∧ SortedOn K (arrOf st) lo (lo + x))
    (Q := fun c st' => st = st' ∧ ∃ n, c = (none, n) ∧ 1 ≤ n ∧ n ≤ nrem ∧ SortedOn K (arrOf st) lo (lo + n) ∧ (n = nrem ∨ kk K (arrOf st) (lo + n) < kk K (arrOf st) (lo + n - 1))) ?s1 ?f1 ⟨rfl, rfl, one_on _⟩) ?p1)
  case s1 =>
    rintro x c st' hx1 hx ⟨rfl, rfl, hs⟩
    dsimp only
    refine wpS_bind (ltAt_ok L hS B (by (exact a59 hn hx)) (by (exact a206 hn hx1 hx)) ?_)
    dsimp only
    by_cases hl : kk K (arrOf st) (lo + x) < kk K (arrOf st) (lo + x - 1)
    · rw [decide_eq_true hl, if_pos rfl]
      exact wpS_pure ⟨rfl, x, rfl, hx1, by (exact a213 hx), hs, .inr hl⟩
    · rw [decide_eq_false hl, if_neg (by decide)]
      exact wpS_pure ⟨rfl, rfl, asc_step hs (by (exact hx1)) (by (exact a87 hl))⟩
  case f1 =>
    rintro c st' ⟨rfl, rfl, hs⟩
    exact ⟨rfl, _, rfl, by (exact a225 ), by (exact a228 h1), hs, .inl (by (exact a232 h1))⟩
  case p1 =>
    rintro c st' ⟨rfl, n, rfl, hn1, hn2, hs, hlt⟩
    dsimp only
    by_cases c1 : (n == nrem) = true
    · rw [if_pos c1]
      exact wpS_pure (h n st B hn1 hn2 (.refl _ _ _) hs)
    rw [if_neg c1]
    have c1 : ¬ n = nrem := by simpa using c1
    have hlt : kk K (arrOf st) (lo + n) < kk K (arrOf st) (lo + n - 1) := hlt.resolve_left c1
    by_cases c2 : n > 1
    · rw [if_pos c2]
      refine wpS_bind (ltAt_ok L hS B (by (exact a238 hn h1)) (by (exact a240 hn hn1 hn2)) ?_)
      dsimp only
      by_cases hr : kk K (arrOf st) lo < kk K (arrOf st) (lo + n - 1)
      · rw [decide_eq_true hr, if_pos rfl]
        exact wpS_pure (h n st B hn1 hn2 (.refl _ _ _) hs)
      rw [decide_eq_false hr, if_neg (by decide)]
      refine wpS_bind (rev_ok (lo := lo) (hi := lo + n) (K := K) B (by (exact a241 hn hn2)) (Nat.le_refl _) (Nat.le_refl _) fun st₁ B₁ F₁ hk₁ => ?_)
      have D₀ := dec_of hs (by (exact a87 hr)) hn1 hlt
      have hk₁ : ∀ k, kk K (arrOf st₁) k = kk K (arrOf st) k := fun k => by
        rw [hk₁ k]; split
        · have := D₀ lo k (Nat.le_refl _) (by (exact a247 ‹_›)) (by (exact a249 ‹_›))
          have := D₀ lo (lo + (lo + n) - 1 - k) (Nat.le_refl _) (by (exact a254 ‹_›)) (by (exact a256 ‹_›))
          have := hs lo k (Nat.le_refl _) (by (exact a247 ‹_›)) (by (exact a261 ‹_›))
          have := hs lo (lo + (lo + n) - 1 - k) (Nat.le_refl _) (by (exact a254 ‹_›)) (by (exact a263 ‹_›))
          (exact a266 ‹_› ‹_› this ‹_›)
        · rfl
      have D : Dec K (arrOf st₁) lo (lo + (n + 1)) := fun i j q1 q2 q3 => by rw [hk₁, hk₁]; exact D₀ i j q1 q2 q3
      refine wpS_bind (wpS_lift (wpAny_rule ⟨rfl, ?_⟩))
      refine wpS_bind (wpS_mono (wpS_forRange (I := fun x c st' => SB κ a₀ st' ∧ Frm lo (lo + x) st st' ∧ c.1 = none ∧ c.2.1 = x ∧ Dec K (arrOf st') lo (lo + x) ∧ (∀ i, lo + x - (c.2.2 + 1) ≤ i → i < lo + x → kk K (arrOf st') i = kk K (arrOf st') (lo + x - 1)) ∧ c.2.2 + 1 ≤ x)
        (Q := fun c st' => SB κ a₀ st' ∧ c.1 = none ∧ n + 1 ≤ c.2.1 ∧ c.2.1 ≤ nrem ∧ Frm lo (lo + c.2.1) st st' ∧ Dec K (arrOf st') lo (lo + c.2.1) ∧ (∀ i, lo + c.2.1 - (c.2.2 + 1) ≤ i → i < lo + c.2.1 → kk K (arrOf st') i = kk K (arrOf st') (lo + c.2.1 - 1)) ∧ c.2.2 + 1 ≤ c.2.1) ?_ ?_
        ⟨B₁, F₁.up (by (exact a269 )), rfl, rfl, D, fun i q1 q2 => by dsimp only at q1; rw [show i = lo + (n + 1) - 1 by (exact a271 q1 q2)], by dsimp only; (exact a273 )⟩) ?_)
      · rintro x ⟨c1, x', neq⟩ st' hx1 hx ⟨B', F', hc1, hx', D', hq, hle⟩
        dsimp only at hc1 hx' hq hle ⊢
        subst hc1; subst hx'
        refine wpS_bind (ltAt_ok L hS B' (by (exact a59 hn hx)) (by (exact a279 hn hx1 hx)) ?_)
        dsimp only
        by_cases hl : kk K (arrOf st') (lo + x') < kk K (arrOf st') (lo + x' - 1)
        · rw [decide_eq_true hl, if_pos rfl]
          have ext : ∀ st'', (∀ k, kk K (arrOf st'') k = kk K (arrOf st') k) → Dec K (arrOf st'') lo (lo + (x' + 1)) := fun st'' he i j q1 q2 q3 => by
            rw [he, he]
            by_cases hj : j = lo + x'
            · subst hj
              by_cases hi : i = lo + x'
              · subst hi; exact Int.le_refl _
              · have := D' i (lo + x' - 1) q1 (by (exact a192 q2 hi)) (by (exact a282 hx1)); (exact a102 hl this)
            · exact D' i j q1 q2 (by (exact a201 q3 hj))
          by_cases hne : neq > 0
          · rw [if_pos hne]
            refine wpS_bind (rev_ok (lo := lo) (hi := lo + x') (K := K) B' (by (exact a285 hn hx)) (by (exact a290 hle)) (Nat.le_refl _) fun st'' B'' F'' hk'' => ?_)
            have he : ∀ k, kk K (arrOf st'') k = kk K (arrOf st') k := fun k => by
              rw [hk'' k]; split
              · rw [hq k (by (exact a295 ‹_›)) (by (exact a296 ‹_›)), hq _ (by (exact a300 ‹_›)) (by (exact a302 ‹_›))]
              · rfl
            exact wpS_pure ⟨B'', (F'.trans F'').up (by (exact a269 )), rfl, rfl, ext st'' he, fun i q1 q2 => by dsimp only at q1; rw [show i = lo + (x' + 1) - 1 by (exact a271 q1 q2)], by dsimp only; (exact a273 )⟩
          · rw [if_neg hne]
            exact wpS_pure ⟨B', F'.up (by (exact a269 )), rfl, rfl, ext st' (fun _ => rfl), fun i q1 q2 => by dsimp only at q1; rw [show i = lo + (x' + 1) - 1 by (exact a271 q1 q2)], by dsimp only; (exact a273 )⟩
        · rw [decide_eq_false hl, if_neg (by decide)]
          refine wpS_bind (ltAt_ok L hS B' (by (exact a279 hn hx1 hx)) (by (exact a59 hn hx)) ?_)
          dsimp only
          by_cases hg : kk K (arrOf st') (lo + x' - 1) < kk K (arrOf st') (lo + x')
          · rw [decide_eq_true hg, if_pos rfl]
            exact wpS_pure ⟨B', rfl, hx1, by dsimp only; (exact a213 hx), F', D', hq, hle⟩
          · rw [decide_eq_false hg, if_neg (by decide)]
            have heq : kk K (arrOf st') (lo + x') = kk K (arrOf st') (lo + x' - 1) := by (exact a313 hl hg)
            refine wpS_pure ⟨B', F'.up (by (exact a269 )), rfl, rfl, fun i j q1 q2 q3 => ?_, fun i q1 q2 => ?_, by dsimp only; (exact a316 hle)⟩
            · by_cases hj : j = lo + x'
              · subst hj
                by_cases hi : i = lo + x'
                · subst hi; exact Int.le_refl _
                · have := D' i (lo + x' - 1) q1 (by (exact a192 q2 hi)) (by (exact a282 hx1)); (exact a110 this hg)
              · exact D' i j q1 q2 (by (exact a201 q3 hj))
            · dsimp only at q1
              rw [show lo + (x' + 1) - 1 = lo + x' by (exact a323 ), heq]
              by_cases hi : i = lo + x'
              · subst hi; exact heq
              · exact hq i (by (exact a326 q1)) (by (exact a201 q2 hi))
      · rintro ⟨c1, x', neq⟩ st' ⟨B', F', hc1, hx', D', hq, hle⟩
        dsimp only at hc1 hx' hq hle ⊢
        have hx'' : x' = nrem := by (exact a329 hx' hn2 ‹_›)
        rw [← hx'] at F' D' hq hle
        exact ⟨B', hc1, by (exact a332 hn2 hx'' ‹_›), by (exact a212 hx''), F', D', hq, hle⟩
      · rintro ⟨c1, x, neq⟩ st₂ ⟨B₂, hc1, hx1, hx2, F₂, D₂, hq, hle⟩
        dsimp only at hc1 hx1 hx2 F₂ D₂ hq hle ⊢
        subst hc1
        dsimp only
        by_cases hne : neq > 0
        · rw [if_pos hne]
          refine wpS_bind (rev_ok (lo := lo) (hi := lo + x) (K := K) B₂ (by (exact a241 hn hx2)) (by (exact a290 hle)) (Nat.le_refl _) fun st₃ B₃ F₃ hk₃ => ?_)
          have he : ∀ k, kk K (arrOf st₃) k = kk K (arrOf st₂) k := fun k => by
            rw [hk₃ k]; split
            · rw [hq k (by (exact a295 ‹_›)) (by (exact a296 ‹_›)), hq _ (by (exact a300 ‹_›)) (by (exact a302 ‹_›))]
            · rfl
          have D₃ : Dec K (arrOf st₃) lo (lo + x) := fun i j q1 q2 q3 => by rw [he, he]; exact D₂ i j q1 q2 q3
          have F₂ := F₂.trans F₃
          have B₂ := B₃
          refine wpS_bind (rev_ok (lo := lo) (hi := lo + x) (K := K) B₂ (by (exact a241 hn hx2)) (Nat.le_refl _) (Nat.le_refl _) fun st₄ B₄ F₄ hk₄ => ?_)
          have hs₄ : SortedOn K (arrOf st₄) lo (lo + x) := fun i j q1 q2 q3 => by
            rw [hk₄, hk₄, if_pos (by (exact a351 q1 q2 q3)), if_pos (by (exact a354 q1 q3 q2))]
            exact D₃ _ _ (by (exact a357 q3)) (by (exact a360 q3 q2)) (by (exact a362 hx1 q1))
          have F₅ := F₂.trans F₄
          refine wpS_bind (wpS_mono (wpS_forRange (I := fun z c st' => st₄ = st' ∧ c = (none, z) ∧ SortedOn K (arrOf st₄) lo (lo + z))
            (Q := fun c st' => st₄ = st' ∧ ∃ n, c = (none, n) ∧ x ≤ n ∧ n ≤ nrem ∧ SortedOn K (arrOf st₄) lo (lo + n)) ?_ ?_ ⟨rfl, rfl, hs₄⟩) ?_)
          · rintro z c st' hz1 hz ⟨rfl, rfl, hs⟩
            dsimp only
            refine wpS_bind (ltAt_ok L hS B₄ (by (exact a59 hn hz)) (by (exact a369 hn hx1 hz hz1)) ?_)
            dsimp only
            by_cases hl : kk K (arrOf st₄) (lo + z) < kk K (arrOf st₄) (lo + z - 1)
            · rw [decide_eq_true hl, if_pos rfl]
              exact wpS_pure ⟨rfl, z, rfl, hz1, by (exact a213 hz), hs⟩
            · rw [decide_eq_false hl, if_neg (by decide)]
              exact wpS_pure ⟨rfl, rfl, asc_step hs (by (exact a378 hle hz1)) (by (exact a87 hl))⟩
          · rintro c st' ⟨rfl, rfl, hs⟩
            exact ⟨rfl, _, rfl, by (exact a382 ), by (exact a383 hx2), hs⟩
          · rintro c st' ⟨rfl, n', rfl, hn1', hn2', hs⟩
            exact wpS_pure (h n' st₄ B₄ (by (exact a378 hle hn1')) hn2' (F₅.up (by (exact a55 hn1'))) hs)
        · rw [if_neg hne]
          refine wpS_bind (rev_ok (lo := lo) (hi := lo + x) (K := K) B₂ (by (exact a241 hn hx2)) (Nat.le_refl _) (Nat.le_refl _) fun st₄ B₄ F₄ hk₄ => ?_)
          have hs₄ : SortedOn K (arrOf st₄) lo (lo + x) := fun i j q1 q2 q3 => by
            rw [hk₄, hk₄, if_pos (by (exact a351 q1 q2 q3)), if_pos (by (exact a354 q1 q3 q2))]
            exact D₂ _ _ (by (exact a357 q3)) (by (exact a360 q3 q2)) (by (exact a362 hx1 q1))
          have F₅ := F₂.trans F₄
          refine wpS_bind (wpS_mono (wpS_forRange (I := fun z c st' => st₄ = st' ∧ c = (none, z) ∧ SortedOn K (arrOf st₄) lo (lo + z))
            (Q := fun c st' => st₄ = st' ∧ ∃ n, c = (none, n) ∧ x ≤ n ∧ n ≤ nrem ∧ SortedOn K (arrOf st₄) lo (lo + n)) ?_ ?_ ⟨rfl, rfl, hs₄⟩) ?_)
          · rintro z c st' hz1 hz ⟨rfl, rfl, hs⟩
            dsimp only
            refine wpS_bind (ltAt_ok L hS B₄ (by (exact a59 hn hz)) (by (exact a369 hn hx1 hz hz1)) ?_)
            dsimp only
            by_cases hl : kk K (arrOf st₄) (lo + z) < kk K (arrOf st₄) (lo + z - 1)
            · rw [decide_eq_true hl, if_pos rfl]
              exact wpS_pure ⟨rfl, z, rfl, hz1, by (exact a213 hz), hs⟩
            · rw [decide_eq_false hl, if_neg (by decide)]
              exact wpS_pure ⟨rfl, rfl, asc_step hs (by (exact a378 hle hz1)) (by (exact a87 hl))⟩
          · rintro c st' ⟨rfl, rfl, hs⟩
            exact ⟨rfl, _, rfl, by (exact a382 ), by (exact a383 hx2), hs⟩
          · rintro c st' ⟨rfl, n', rfl, hn1', hn2', hs⟩
            exact wpS_pure (h n' st₄ B₄ (by (exact a378 hle hn1')) hn2' (F₅.up (by (exact a55 hn1'))) hs)
    · rw [if_neg c2]
      have hn1' : n = 1 := by (exact a405 hn1 c2)
      have D : Dec K (arrOf st) lo (lo + (n + 1)) := dec_of hs (by rw [hn1']; exact Int.le_refl _) hn1 hlt
      have B₁ := B
      have F₁ : Frm lo (lo + n) st st := .refl _ _ _
      refine wpS_bind (wpS_lift (wpAny_rule ⟨rfl, ?_⟩))
      refine wpS_bind (wpS_mono (wpS_forRange (I := fun x c st' => SB κ a₀ st' ∧ Frm lo (lo + x) st st' ∧ c.1 = none ∧ c.2.1 = x ∧ Dec K (arrOf st') lo (lo + x) ∧ (∀ i, lo + x - (c.2.2 + 1) ≤ i → i < lo + x → kk K (arrOf st') i = kk K (arrOf st') (lo + x - 1)) ∧ c.2.2 + 1 ≤ x)
        (Q := fun c st' => SB κ a₀ st' ∧ c.1 = none ∧ n + 1 ≤ c.2.1 ∧ c.2.1 ≤ nrem ∧ Frm lo (lo + c.2.1) st st' ∧ Dec K (arrOf st') lo (lo + c.2.1) ∧ (∀ i, lo + c.2.1 - (c.2.2 + 1) ≤ i → i < lo + c.2.1 → kk K (arrOf st') i = kk K (arrOf st') (lo + c.2.1 - 1)) ∧ c.2.2 + 1 ≤ c.2.1) ?_ ?_
        ⟨B₁, F₁.up (by (exact a269 )), rfl, rfl, D, fun i q1 q2 => by dsimp only at q1; rw [show i = lo + (n + 1) - 1 by (exact a271 q1 q2)], by dsimp only; (exact a273 )⟩) ?_)
      · rintro x ⟨c1, x', neq⟩ st' hx1 hx ⟨B', F', hc1, hx', D', hq, hle⟩
        dsimp only at hc1 hx' hq hle ⊢
        subst hc1; subst hx'
        refine wpS_bind (ltAt_ok L hS B' (by (exact a59 hn hx)) (by (exact a279 hn hx1 hx)) ?_)
        dsimp only
        by_cases hl : kk K (arrOf st') (lo + x') < kk K (arrOf st') (lo + x' - 1)
        · rw [decide_eq_true hl, if_pos rfl]
          have ext : ∀ st'', (∀ k, kk K (arrOf st'') k = kk K (arrOf st') k) → Dec K (arrOf st'') lo (lo + (x' + 1)) := fun st'' he i j q1 q2 q3 => by
            rw [he, he]
            by_cases hj : j = lo + x'
            · subst hj
              by_cases hi : i = lo + x'
              · subst hi; exact Int.le_refl _
              · have := D' i (lo + x' - 1) q1 (by (exact a192 q2 hi)) (by (exact a282 hx1)); (exact a102 hl this)
            · exact D' i j q1 q2 (by (exact a201 q3 hj))
          by_cases hne : neq > 0
          · rw [if_pos hne]
            refine wpS_bind (rev_ok (lo := lo) (hi := lo + x') (K := K) B' (by (exact a285 hn hx)) (by (exact a290 hle)) (Nat.le_refl _) fun st'' B'' F'' hk'' => ?_)
            have he : ∀ k, kk K (arrOf st'') k = kk K (arrOf st') k := fun k => by
              rw [hk'' k]; split
              · rw [hq k (by (exact a295 ‹_›)) (by (exact a296 ‹_›)), hq _ (by (exact a300 ‹_›)) (by (exact a302 ‹_›))]
              · rfl
            exact wpS_pure ⟨B'', (F'.trans F'').up (by (exact a269 )), rfl, rfl, ext st'' he, fun i q1 q2 => by dsimp only at q1; rw [show i = lo + (x' + 1) - 1 by (exact a271 q1 q2)], by dsimp only; (exact a273 )⟩
          · rw [if_neg hne]
            exact wpS_pure ⟨B', F'.up (by (exact a269 )), rfl, rfl, ext st' (fun _ => rfl), fun i q1 q2 => by dsimp only at q1; rw [show i = lo + (x' + 1) - 1 by (exact a271 q1 q2)], by dsimp only; (exact a273 )⟩
        · rw [decide_eq_false hl, if_neg (by decide)]
          refine wpS_bind (ltAt_ok L hS B' (by (exact a279 hn hx1 hx)) (by (exact a59 hn hx)) ?_)
          dsimp only
          by_cases hg : kk K (arrOf st') (lo + x' - 1) < kk K (arrOf st') (lo + x')
          · rw [decide_eq_true hg, if_pos rfl]
            exact wpS_pure ⟨B', rfl, hx1, by dsimp only; (exact a213 hx), F', D', hq, hle⟩
          · rw [decide_eq_false hg, if_neg (by decide)]
            have heq : kk K (arrOf st') (lo + x') = kk K (arrOf st') (lo + x' - 1) := by (exact a313 hl hg)
            refine wpS_pure ⟨B', F'.up (by (exact a269 )), rfl, rfl, fun i j q1 q2 q3 => ?_, fun i q1 q2 => ?_, by dsimp only; (exact a316 hle)⟩
            · by_cases hj : j = lo + x'
              · subst hj
                by_cases hi : i = lo + x'
                · subst hi; exact Int.le_refl _
                · have := D' i (lo + x' - 1) q1 (by (exact a192 q2 hi)) (by (exact a282 hx1)); (exact a110 this hg)
              · exact D' i j q1 q2 (by (exact a201 q3 hj))
            · dsimp only at q1
              rw [show lo + (x' + 1) - 1 = lo + x' by (exact a323 ), heq]
              by_cases hi : i = lo + x'
              · subst hi; exact heq
              · exact hq i (by (exact a326 q1)) (by (exact a201 q2 hi))
      · rintro ⟨c1, x', neq⟩ st' ⟨B', F', hc1, hx', D', hq, hle⟩
        dsimp only at hc1 hx' hq hle ⊢
        have hx'' : x' = nrem := by (exact a329 hx' hn2 ‹_›)
        rw [← hx'] at F' D' hq hle
        exact ⟨B', hc1, by (exact a332 hn2 hx'' ‹_›), by (exact a212 hx''), F', D', hq, hle⟩
      · rintro ⟨c1, x, neq⟩ st₂ ⟨B₂, hc1, hx1, hx2, F₂, D₂, hq, hle⟩
        dsimp only at hc1 hx1 hx2 F₂ D₂ hq hle ⊢
        subst hc1
        dsimp only
        by_cases hne : neq > 0
        · rw [if_pos hne]
          refine wpS_bind (rev_ok (lo := lo) (hi := lo + x) (K := K) B₂ (by (exact a241 hn hx2)) (by (exact a290 hle)) (Nat.le_refl _) fun st₃ B₃ F₃ hk₃ => ?_)
          have he : ∀ k, kk K (arrOf st₃) k = kk K (arrOf st₂) k := fun k => by
            rw [hk₃ k]; split
            · rw [hq k (by (exact a295 ‹_›)) (by (exact a296 ‹_›)), hq _ (by (exact a300 ‹_›)) (by (exact a302 ‹_›))]
            · rfl
          have D₃ : Dec K (arrOf st₃) lo (lo + x) := fun i j q1 q2 q3 => by rw [he, he]; exact D₂ i j q1 q2 q3
          have F₂ := F₂.trans F₃
          have B₂ := B₃
          refine wpS_bind (rev_ok (lo := lo) (hi := lo + x) (K := K) B₂ (by (exact a241 hn hx2)) (Nat.le_refl _) (Nat.le_refl _) fun st₄ B₄ F₄ hk₄ => ?_)
          have hs₄ : SortedOn K (arrOf st₄) lo (lo + x) := fun i j q1 q2 q3 => by
            rw [hk₄, hk₄, if_pos (by (exact a351 q1 q2 q3)), if_pos (by (exact a354 q1 q3 q2))]
            exact D₃ _ _ (by (exact a357 q3)) (by (exact a360 q3 q2)) (by (exact a362 hx1 q1))
          have F₅ := F₂.trans F₄
          refine wpS_bind (wpS_mono (wpS_forRange (I := fun z c st' => st₄ = st' ∧ c = (none, z) ∧ SortedOn K (arrOf st₄) lo (lo + z))
            (Q := fun c st' => st₄ = st' ∧ ∃ n, c = (none, n) ∧ x ≤ n ∧ n ≤ nrem ∧ SortedOn K (arrOf st₄) lo (lo + n)) ?_ ?_ ⟨rfl, rfl, hs₄⟩) ?_)
          · rintro z c st' hz1 hz ⟨rfl, rfl, hs⟩
            dsimp only
            refine wpS_bind (ltAt_ok L hS B₄ (by (exact a59 hn hz)) (by (exact a369 hn hx1 hz hz1)) ?_)
            dsimp only
            by_cases hl : kk K (arrOf st₄) (lo + z) < kk K (arrOf st₄) (lo + z - 1)
            · rw [decide_eq_true hl, if_pos rfl]
              exact wpS_pure ⟨rfl, z, rfl, hz1, by (exact a213 hz), hs⟩
            · rw [decide_eq_false hl, if_neg (by decide)]
              exact wpS_pure ⟨rfl, rfl, asc_step hs (by (exact a378 hx1 hz1)) (by (exact a87 hl))⟩
          · rintro c st' ⟨rfl, rfl, hs⟩
            exact ⟨rfl, _, rfl, by (exact a382 ), by (exact a383 hx2), hs⟩
          · rintro c st' ⟨rfl, n', rfl, hn1', hn2', hs⟩
            exact wpS_pure (h n' st₄ B₄ (by (exact a378 hx1 hn1')) hn2' (F₅.up (by (exact a55 hn1'))) hs)
        · rw [if_neg hne]
          refine wpS_bind (rev_ok (lo := lo) (hi := lo + x) (K := K) B₂ (by (exact a241 hn hx2)) (Nat.le_refl _) (Nat.le_refl _) fun st₄ B₄ F₄ hk₄ => ?_)
          have hs₄ : SortedOn K (arrOf st₄) lo (lo + x) := fun i j q1 q2 q3 => by
            rw [hk₄, hk₄, if_pos (by (exact a351 q1 q2 q3)), if_pos (by (exact a354 q1 q3 q2))]
            exact D₂ _ _ (by (exact a357 q3)) (by (exact a360 q3 q2)) (by (exact a362 hx1 q1))
          have F₅ := F₂.trans F₄
          refine wpS_bind (wpS_mono (wpS_forRange (I := fun z c st' => st₄ = st' ∧ c = (none, z) ∧ SortedOn K (arrOf st₄) lo (lo + z))
            (Q := fun c st' => st₄ = st' ∧ ∃ n, c = (none, n) ∧ x ≤ n ∧ n ≤ nrem ∧ SortedOn K (arrOf st₄) lo (lo + n)) ?_ ?_ ⟨rfl, rfl, hs₄⟩) ?_)
          · rintro z c st' hz1 hz ⟨rfl, rfl, hs⟩
            dsimp only
            refine wpS_bind (ltAt_ok L hS B₄ (by (exact a59 hn hz)) (by (exact a369 hn hx1 hz hz1)) ?_)
            dsimp only
            by_cases hl : kk K (arrOf st₄) (lo + z) < kk K (arrOf st₄) (lo + z - 1)
            · rw [decide_eq_true hl, if_pos rfl]
              exact wpS_pure ⟨rfl, z, rfl, hz1, by (exact a213 hz), hs⟩
            · rw [decide_eq_false hl, if_neg (by decide)]
              exact wpS_pure ⟨rfl, rfl, asc_step hs (by (exact a378 hx1 hz1)) (by (exact a87 hl))⟩
          · rintro c st' ⟨rfl, rfl, hs⟩
            exact ⟨rfl, _, rfl, by (exact a382 ), by (exact a383 hx2), hs⟩
          · rintro c st' ⟨rfl, n', rfl, hn1', hn2', hs⟩
            exact wpS_pure (h n' st₄ B₄ (by (exact a378 hx1 hn1')) hn2' (F₅.up (by (exact a55 hn1'))) hs)
end
end Mine

set_option autoImplicit false
set_option maxHeartbeats 4000000
set_option maxRecDepth 100000
namespace Mine
open PySem PyProof.Rows
section
variable {M : Model} {A : Around} {E : Value → Shared → Prop} {s : Shared} {κ : SortKind} {S : KRow → Prop} {K : KRow → Int} {a₀ : Array KRow}
def Runs (K : KRow → Int) (a : Array KRow) : List (Nat × Nat × Nat) → Nat → Nat → Prop
  | [], lo, hi => lo = hi
  | (p, n, _) :: r, lo, hi => p = lo ∧ 1 ≤ n ∧ SortedOn K a lo (lo + n) ∧ Runs K a r (lo + n) hi
theorem Runs.le {a : Array KRow} : ∀ {l : List (Nat × Nat × Nat)} {lo hi : Nat}, Runs K a l lo hi → lo + l.length ≤ hi
  | [], lo, hi, h => by have : lo = hi := h; simp; (exact a212 this)
  | (p, n, _) :: r, lo, hi, ⟨_, h2, _, h4⟩ => by have := h4.le; simp; (exact a215 this h2)
theorem SortedOn.same {a b : Array KRow} {lo hi : Nat} (h : SortedOn K a lo hi) (he : ∀ j, lo ≤ j → j < hi → b[j]? = a[j]?) : SortedOn K b lo hi := fun i j h1 h2 h3 => by
  have e1 : kk K b i = kk K a i := by unfold kk; rw [he i h1 (by (exact a211 h2 h3))]
  have e2 : kk K b j = kk K a j := by unfold kk; rw [he j (by (exact a214 h1 h2)) h3]
  rw [e1, e2]; exact h i j h1 h2 h3
theorem Runs.same {a b : Array KRow} : ∀ {l : List (Nat × Nat × Nat)} {lo hi : Nat}, Runs K a l lo hi → (∀ j, lo ≤ j → j < hi → b[j]? = a[j]?) → Runs K b l lo hi
  | [], _, _, h, _ => h
  | (p, n, _) :: r, lo, hi, ⟨h1, h2, h3, h4⟩, he => by
    have := h4.le
    exact ⟨h1, h2, h3.same fun j q1 q2 => he j q1 (by (exact a219 this q2)), h4.same fun j q1 q2 => he j (by (exact a222 q1)) q2⟩
theorem Runs.append {a : Array KRow} : ∀ {l₁ l₂ : List (Nat × Nat × Nat)} {lo hi : Nat}, Runs K a (l₁ ++ l₂) lo hi ↔ ∃ mid, Runs K a l₁ lo mid ∧ Runs K a l₂ mid hi
  | [], l₂, lo, hi => ⟨fun h => ⟨lo, rfl, h⟩, fun ⟨mid, h1, h2⟩ => by have : lo = mid := h1; subst this; exact h2⟩
  | (p, n, w) :: r, l₂, lo, hi => by
    have ih := @Runs.append a r l₂ (lo + n) hi
    constructor
    · rintro ⟨h1, h2, h3, h4⟩
      obtain ⟨mid, h5, h6⟩ := ih.mp h4
      exact ⟨mid, ⟨h1, h2, h3, h5⟩, h6⟩
    · rintro ⟨mid, ⟨h1, h2, h3, h5⟩, h6⟩
      exact ⟨h1, h2, h3, ih.mpr ⟨mid, h5, h6⟩⟩
theorem split2 {α : Type} : ∀ {l : List α} {i : Nat} {x y : α}, l[i]? = some x → l[i + 1]? = some y → l = l.take i ++ x :: y :: l.drop (i + 2)
  | [], _, _, _, h, _ => by simp at h
  | [_], 0, _, _, _, h => by simp at h
  | a :: b :: l, 0, x, y, h1, h2 => by simp at h1 h2; subst h1; subst h2; simp
  | a :: l, i + 1, x, y, h1, h2 => by
    have := split2 (l := l) (i := i) (by simpa using h1) (by simpa using h2)
    simp only [List.take_succ_cons, List.cons_append, List.drop_succ_cons]
    rw [← this]
theorem pend_list {p : Array (Nat × Nat × Nat)} {i sa na sb nb pw pw' : Nat} (p1 : p[i]? = some (sa, na, pw)) (p2 : p[i + 1]? = some (sb, nb, pw')) :
    ((p.setIfInBounds i (sa, na + nb, pw)).eraseIdxIfInBounds (i + 1)).toList = p.toList.take i ++ (sa, na + nb, pw) :: p.toList.drop (i + 2) := by
  have hi : i + 1 < p.size := by rw [Array.getElem?_eq_some_iff] at p2; exact p2.1
  have e : ((p.setIfInBounds i (sa, na + nb, pw)).eraseIdxIfInBounds (i + 1)).toList = (p.toList.set i (sa, na + nb, pw)).eraseIdx (i + 1) := by simp
  rw [e]
  have h := split2 (l := p.toList) (i := i) (by simpa using p1) (by simpa using p2)
  have hl : (p.toList.take i).length = i := by simp; (exact a224 hi)
  rw [h]
  rw [List.set_append_right _ _ (by (exact a212 hl)), hl, Nat.sub_self, List.set_cons_zero, List.eraseIdx_append_of_length_le (by (exact a226 hl)), hl, show i + 1 - i = 1 by (exact a229 )]
  have e2 : List.take i (p.toList.take i ++ (sa, na, pw) :: (sb, nb, pw') :: p.toList.drop (i + 2)) = p.toList.take i := by
    rw [List.take_append_of_le_length (by (exact a76 hl)), List.take_take, Nat.min_self]
  have e3 : List.drop (i + 2) (p.toList.take i ++ (sa, na, pw) :: (sb, nb, pw') :: p.toList.drop (i + 2)) = p.toList.drop (i + 2) := by
    rw [List.drop_append, hl, show i + 2 - i = 2 by (exact a233 ), List.drop_of_length_le (by (exact a235 hl))]; rfl
  rw [e2, e3]; rfl
structure RS (κ : SortKind) (K : KRow → Int) (a₀ : Array KRow) (lo : Nat) (st : SortSt) : Prop where
  b : SB κ a₀ st
  runs : Runs K (arrOf st) (pendingOf st).toList 0 lo
theorem merge_runs {st : SortSt} {i lo : Nat} {Q : Bool → SortSt → Prop} (L : LtOk M A E s κ S K) (hS : AllS S a₀) (R : RS κ K a₀ lo st) (hlo : lo ≤ a₀.size) (hi : i + 1 < (pendingOf st).size)
    (h : ∀ st', RS κ K a₀ lo st' → (pendingOf st').size + 1 = (pendingOf st).size → (∀ j, lo ≤ j → (arrOf st')[j]? = (arrOf st)[j]?) → Q true st') : PyProof.Rows.wpS M A E s (mergeAt' i) Q st := by
  obtain ⟨⟨sa, na, pw⟩, p1⟩ : ∃ x, (pendingOf st)[i]? = some x := ⟨_, getElem?_pos (pendingOf st) i (by (exact a100 hi))⟩
  obtain ⟨⟨sb, nb, pw'⟩, p2⟩ : ∃ x, (pendingOf st)[i + 1]? = some x := ⟨_, getElem?_pos (pendingOf st) (i + 1) hi⟩
  have hl := split2 (l := (pendingOf st).toList) (i := i) (by simpa using p1) (by simpa using p2)
  have hR := R.runs
  rw [hl] at hR
  obtain ⟨mid, r1, r2, r3, r4, r5, r6, r7, r8⟩ := Runs.append.mp hR
  subst r2
  subst r5
  have hle := r8.le
  have hle1 := r1.le
  refine mergeAt_ok L hS R.b p1 p2 r3 r6 rfl (by (exact a242 hle hlo)) r4 r7 fun st' B' hp hout hs => ?_
  refine h st' ⟨B', ?_⟩ ?_ fun j hj => hout j (by (exact a246 hle hj))
  · rw [hp, pend_list p1 p2]
    refine Runs.append.mpr ⟨sa, r1.same fun j _ q2 => hout j (.inl q2), rfl, by (exact a250 r3), ?_, ?_⟩
    · rw [← Nat.add_assoc]; exact hs
    · rw [← Nat.add_assoc]; exact r8.same fun j q1 _ => hout j (by (exact a253 q1))
  · have e := congrArg List.length (pend_list p1 p2)
    rw [← hp] at e
    simp only [Array.length_toList, List.length_append, List.length_cons, List.length_take, List.length_drop] at e
    (exact a258 hi e)
end
end Mine

set_option autoImplicit false
set_option maxHeartbeats 4000000
set_option maxRecDepth 100000
namespace Mine
open PySem PyProof.Rows
section
variable {M : Model} {A : Around} {E : Value → Shared → Prop} {s : Shared} {κ : SortKind} {S : KRow → Prop} {K : KRow → Int} {a₀ : Array KRow}
theorem Runs.modify {a : Array KRow} (f : Nat × Nat × Nat → Nat × Nat × Nat) (hf : ∀ p n w, ∃ w', f (p, n, w) = (p, n, w')) : ∀ {l : List (Nat × Nat × Nat)} {lo hi : Nat} (i : Nat), Runs K a l lo hi → Runs K a (l.modify i f) lo hi
  | [], _, _, 0, h => by simpa using h
  | [], _, _, _ + 1, h => by simpa using h
  | (p, n, w) :: r, lo, hi, 0, h => by
    obtain ⟨w', e⟩ := hf p n w
    rw [List.modify_zero_cons, e]
    exact h
  | (p, n, w) :: r, lo, hi, i + 1, ⟨h1, h2, h3, h4⟩ => by
    rw [List.modify_succ_cons]
    exact ⟨h1, h2, h3, Runs.modify f hf i h4⟩
theorem rs_push {st : SortSt} {lo n : Nat} (R : RS κ K a₀ lo st) (hn : 1 ≤ n) (hs : SortedOn K (arrOf st) lo (lo + n)) : RS κ K a₀ (lo + n) (setPending st ((pendingOf st).push (lo, n, 0))) := by
  refine ⟨⟨R.b.perm, R.b.kind, R.b.failed⟩, ?_⟩
  show Runs K (arrOf st) ((pendingOf st).push (lo, n, 0)).toList 0 (lo + n)
  rw [Array.toList_push]
  exact Runs.append.mpr ⟨lo, R.runs, rfl, hn, hs, rfl⟩
theorem rs_mod {st : SortSt} {lo pw : Nat} (R : RS κ K a₀ lo st) : RS κ K a₀ lo (setPending st ((pendingOf st).modify ((pendingOf st).size - 1) fun (x : Nat × Nat × Nat) => (x.1, x.2.1, pw))) := by
  refine ⟨⟨R.b.perm, R.b.kind, R.b.failed⟩, ?_⟩
  show Runs K (arrOf st) ((pendingOf st).modify ((pendingOf st).size - 1) _).toList 0 lo
  rw [Array.toList_modify]
  exact Runs.modify _ (fun p n w => ⟨pw, rfl⟩) _ R.runs
theorem rs_frame {st st' : SortSt} {lo hi : Nat} (R : RS κ K a₀ lo st) (B' : SB κ a₀ st') (F : Frm lo hi st st') : RS κ K a₀ lo st' := ⟨B', by rw [F.pend]; exact R.runs.same fun j _ q => F.out j (.inl q)⟩
theorem ite_le (c : Prop) [Decidable c] (m : Nat) : (if c then m - 1 else m) ≤ m := by split <;> (first | exact a320  | exact a147 )
theorem sortRuns_ok {st : SortSt} {Q : Unit → SortSt → Prop} (L : LtOk M A E s κ S K) (hS : AllS S a₀) (B : SB κ a₀ st) (hp : pendingOf st = #[]) (h2 : 2 ≤ a₀.size)
    (h : ∀ st', SB κ a₀ st' → SortedOn K (arrOf st') 0 a₀.size → Q () st') : PyProof.Rows.wpS M A E s sortRuns' Q st := by
  rw [sortRuns'_eq]
  refine wpS_bind (wpS_get ?_)
  dsimp only
  simp only [B.size]
  have R₀ : RS κ K a₀ 0 st := ⟨B, by rw [hp]; rfl⟩
  refine wpS_bind (wpS_mono (wpS_forRange (I := fun x c st' => c.1 = none ∧ RS κ K a₀ c.2 st' ∧ c.2 ≤ a₀.size ∧ x ≤ c.2) (Q := fun c st' => c.1 = none ∧ RS κ K a₀ a₀.size st') ?step ?fin ⟨rfl, R₀, by dsimp only; (exact a111 ), by dsimp only; (exact a330 )⟩) ?post)
  case fin =>
    rintro ⟨c1, lo⟩ st' ⟨hc, R', h3, h4⟩
    dsimp only at hc R' h3 h4 ⊢
    have : lo = a₀.size := by (exact a331 h4 h3)
    subst this
    exact ⟨hc, R'⟩
  case step =>
    rintro x ⟨c1, lo⟩ st' _ hx ⟨hc, R', h3, h4⟩
    dsimp only at hc R' h3 h4 ⊢
    subst hc
    by_cases hge : lo ≥ a₀.size
    · rw [if_pos hge]
      have : lo = a₀.size := by (exact a88 h3 hge)
      subst this
      exact wpS_pure ⟨rfl, R'⟩
    rw [if_neg hge]
    refine wpS_bind (countRun_ok L hS R'.b (by (exact a335 hge)) (by (exact a336 hge)) fun n st₁ B₁ n1 n2 F₁ hs₁ => ?_)
    have R₁ := rs_frame R' B₁ F₁
    dsimp only
    by_cases hm : n < minRun' a₀.size a₀.size 0
    · rw [if_pos hm]
      refine wpS_bind (wpS_lift (wpAny_rule ⟨rfl, ?_⟩))
      refine wpS_bind (binarySort_ok L hS B₁ (by (exact a338 n1 n2)) (by (exact a339 hm n2)) hs₁ fun st₂ B₂ F₂ hs₂ => ?_)
      have R₂ := rs_frame R₁ B₂ F₂
      simp only [Bool.not_true, Bool.false_eq_true, if_false]
      generalize hfo : min (a₀.size - lo) (minRun' a₀.size a₀.size 0) = fo at hs₂ F₂ ⊢
      have hfo1 : 1 ≤ fo := by (exact a341 hfo n1 hm n2)
      have hfo2 : lo + fo ≤ a₀.size := by (exact a342 hfo n1 n2)
      refine wpS_bind (wpS_get ?_)
      cases hb : (pendingOf st₂).back? with
      | none =>
        dsimp only
        exact wpS_bind (wpS_modify (wpS_pure ⟨rfl, rs_push R₂ (by (exact hfo1)) hs₂, by dsimp only; (exact hfo2), by dsimp only; (exact a347 hfo1 h4)⟩))
      | some q =>
        obtain ⟨s1, n1, w1⟩ := q
        dsimp only
        refine wpS_bind (wpS_mono (wpS_forRange (I := fun x c st'' => c = (none, ()) ∧ RS κ K a₀ lo st'' ∧ SortedOn K (arrOf st'') lo (lo + fo)) (Q := fun c st'' => c = (none, ()) ∧ RS κ K a₀ lo st'' ∧ SortedOn K (arrOf st'') lo (lo + fo)) ?_ (fun _ _ hh => hh) ⟨rfl, R₂, hs₂⟩) ?_)
        · rintro y c st'' _ _ ⟨rfl, R'', hs''⟩
          refine wpS_bind (wpS_get ?_)
          by_cases hz : (pendingOf st'').size > 1
          · rw [if_pos hz]
            obtain ⟨⟨q1, q2, older⟩, hq⟩ : ∃ x, (pendingOf st'')[(pendingOf st'').size - 2]? = some x := ⟨_, getElem?_pos (pendingOf st'') _ (by (exact a348 hz))⟩
            rw [hq]
            dsimp only
            by_cases ho : older ≤ power' a₀.size (2 * s1 + n1) (2 * s1 + n1 + n1 + fo) a₀.size
            · rw [if_pos ho]; exact wpS_pure ⟨rfl, R'', hs''⟩
            · rw [if_neg ho]
              refine wpS_bind (merge_runs L hS R'' (by (exact a350 hge)) (by (exact a352 hz)) fun st₃ R₃ _ hk => ?_)
              simp only [Bool.not_true, Bool.false_eq_true, if_false]
              exact wpS_pure ⟨rfl, R₃, hs''.same fun j j1 _ => hk j j1⟩
          · rw [if_neg hz]
            exact wpS_pure ⟨rfl, R'', hs''⟩
        · rintro c st₃ ⟨rfl, R₃, hs₃⟩
          dsimp only
          refine wpS_bind (wpS_modify ?_)
          refine wpS_bind (wpS_modify (wpS_pure ⟨rfl, rs_push (rs_mod R₃) (by (exact hfo1)) hs₃, by dsimp only; (exact hfo2), by dsimp only; (exact a347 hfo1 h4)⟩))
    · rw [if_neg hm]
      refine wpS_bind (wpS_get ?_)
      cases hb : (pendingOf st₁).back? with
      | none =>
        dsimp only
        exact wpS_bind (wpS_modify (wpS_pure ⟨rfl, rs_push R₁ (by (exact n1)) hs₁, by dsimp only; (exact a356 n1 n2), by dsimp only; (exact a347 n1 h4)⟩))
      | some q =>
        obtain ⟨s1, n1, w1⟩ := q
        dsimp only
        refine wpS_bind (wpS_mono (wpS_forRange (I := fun x c st'' => c = (none, ()) ∧ RS κ K a₀ lo st'' ∧ SortedOn K (arrOf st'') lo (lo + n)) (Q := fun c st'' => c = (none, ()) ∧ RS κ K a₀ lo st'' ∧ SortedOn K (arrOf st'') lo (lo + n)) ?_ (fun _ _ hh => hh) ⟨rfl, R₁, hs₁⟩) ?_)
        · rintro y c st'' _ _ ⟨rfl, R'', hs''⟩
          refine wpS_bind (wpS_get ?_)
          by_cases hz : (pendingOf st'').size > 1
          · rw [if_pos hz]
            obtain ⟨⟨q1, q2, older⟩, hq⟩ : ∃ x, (pendingOf st'')[(pendingOf st'').size - 2]? = some x := ⟨_, getElem?_pos (pendingOf st'') _ (by (exact a348 hz))⟩
            rw [hq]
            dsimp only
            by_cases ho : older ≤ power' a₀.size (2 * s1 + n1) (2 * s1 + n1 + n1 + n) a₀.size
            · rw [if_pos ho]; exact wpS_pure ⟨rfl, R'', hs''⟩
            · rw [if_neg ho]
              refine wpS_bind (merge_runs L hS R'' (by (exact a350 hge)) (by (exact a352 hz)) fun st₃ R₃ _ hk => ?_)
              simp only [Bool.not_true, Bool.false_eq_true, if_false]
              exact wpS_pure ⟨rfl, R₃, hs''.same fun j j1 _ => hk j j1⟩
          · rw [if_neg hz]
            exact wpS_pure ⟨rfl, R'', hs''⟩
        · rintro c st₃ ⟨rfl, R₃, hs₃⟩
          dsimp only
          refine wpS_bind (wpS_modify ?_)
          refine wpS_bind (wpS_modify (wpS_pure ⟨rfl, rs_push (rs_mod R₃) (by (assumption)) hs₃, by dsimp only; (exact a356 ‹_› n2), by dsimp only; (exact a347 ‹_› h4)⟩))
  case post =>
    rintro ⟨c1, lo⟩ st' ⟨hc, R'⟩
    dsimp only at hc ⊢
    subst hc
    dsimp only
    have hle := R'.runs.le
    refine wpS_bind (wpS_mono (wpS_forRange (I := fun x c st'' => c = (none, ()) ∧ RS κ K a₀ a₀.size st'' ∧ (pendingOf st'').size + x ≤ a₀.size) (Q := fun c st'' => c = (none, ()) ∧ RS κ K a₀ a₀.size st'' ∧ (pendingOf st'').size ≤ 1) ?_ ?_ ⟨rfl, R', by simp at hle; (exact a363 hle)⟩) ?_)
    · rintro y c st'' _ hy ⟨rfl, R'', hz⟩
      refine wpS_bind (wpS_get ?_)
      by_cases hsz : (pendingOf st'').size ≤ 1
      · rw [if_pos hsz]; exact wpS_pure ⟨rfl, R'', hsz⟩
      · rw [if_neg hsz]
        refine wpS_bind (merge_runs L hS R'' (Nat.le_refl _) (Nat.lt_of_le_of_lt (Nat.add_le_add_right (ite_le _ _) 1) (show (pendingOf st'').size - 2 + 1 < (pendingOf st'').size by (exact a365 hsz))) fun st₃ R₃ hz₃ _ => ?_)
        simp only [Bool.not_true, Bool.false_eq_true, if_false]
        exact wpS_pure ⟨rfl, R₃, by (exact a366 hz₃ hz)⟩
    · rintro c st'' ⟨rfl, R'', hz⟩
      exact ⟨rfl, R'', by (exact a367 hz)⟩
    · rintro c st'' ⟨rfl, R'', hz⟩
      refine wpS_pure (h st'' R''.b ?_)
      have hr := R''.runs
      match hl : (pendingOf st'').toList, hr with
      | [], hr => have : 0 = a₀.size := hr
                  (exact (a368 this h2).elim)
      | [(p, n, w)], hr =>
        obtain ⟨_, _, r3, r4⟩ := hr
        have : 0 + n = a₀.size := r4
        rw [this] at r3
        exact r3
      | _ :: _ :: _, _ => have := congrArg List.length hl; simp at this; (exact (a370 this hz).elim)
end
end Mine

set_option autoImplicit false
set_option maxRecDepth 100000
namespace Mine
open PySem PyProof.Rows
abbrev Row := List Nat × Int
structure SWO (lo : Row → Row → Bool) : Prop where
  irrefl : ∀ a, lo a a = false
  trans : ∀ a b c, lo a b = true → lo b c = true → lo a c = true
  neg : ∀ a b c, lo a c = true → lo a b = true ∨ lo b c = true
def rank (lo : Row → Row → Bool) (rs : List Row) (r : Row) : Nat := (rs.filter fun q => lo q r).length
theorem filter_le {p q : Row → Bool} : ∀ (l : List Row), (∀ x ∈ l, p x = true → q x = true) → (l.filter p).length ≤ (l.filter q).length
  | [], _ => by simp
  | a :: l, h => by
    have ih := filter_le l fun x hx => h x (List.mem_cons_of_mem _ hx)
    have ha := h a (List.mem_cons_self ..)
    rw [List.filter_cons, List.filter_cons]
    by_cases hp : p a = true
    · rw [if_pos hp, if_pos (ha hp)]; simp; (exact ih)
    · rw [if_neg hp]; split <;> simp <;> (first | exact a324 ih | exact ih)
theorem filter_lt {p q : Row → Bool} : ∀ (l : List Row), (∀ x ∈ l, p x = true → q x = true) → (∃ x ∈ l, p x = false ∧ q x = true) → (l.filter p).length < (l.filter q).length
  | [], _, ⟨_, hx, _⟩ => by cases hx
  | a :: l, h, ⟨x, hx, h1, h2⟩ => by
    have hl := fun x hx => h x (List.mem_cons_of_mem a hx)
    have ha := h a (List.mem_cons_self ..)
    rw [List.filter_cons, List.filter_cons]
    rcases List.mem_cons.mp hx with rfl | hx
    · have ih := filter_le l hl
      rw [h1, h2]; simp; (exact a325 ih)
    · have ih := filter_lt l hl ⟨x, hx, h1, h2⟩
      by_cases hp : p a = true
      · rw [if_pos hp, if_pos (ha hp)]; simp; (exact ih)
      · rw [if_neg hp]; split <;> simp <;> (first | exact a327 ih | exact ih)
theorem rank_lt {lo : Row → Row → Bool} (W : SWO lo) {rs : List Row} {a b : Row} (ha : a ∈ rs) : lo a b = true ↔ rank lo rs a < rank lo rs b := by
  constructor
  · intro h
    exact filter_lt rs (fun x _ hx => W.trans x a b hx h) ⟨a, ha, W.irrefl a, h⟩
  · intro h
    cases hc : lo a b with
    | true => rfl
    | false =>
      have : rank lo rs b ≤ rank lo rs a := filter_le rs fun x _ hx => by
        rcases W.neg x a b hx with q | q
        · exact q
        · rw [hc] at q; cases q
      (exact (a156 h this).elim)
section
variable {M : Model} {A : Around} {E : Value → Shared → Prop} {s : Shared} {κ : SortKind}
open Classical in
noncomputable def pick (J : KRow → Row → Prop) (x : KRow) : Row := if h : ∃ r, J x r then Classical.choose h else ([], 0)
theorem pick_eq {J : KRow → Row → Prop} (hinj : ∀ x r r', J x r → J x r' → r = r') {x : KRow} {r : Row} (h : J x r) : pick J x = r := by
  unfold pick
  rw [dif_pos ⟨r, h⟩]
  exact hinj x _ _ (Classical.choose_spec ⟨r, h⟩) h
theorem pick_map {J : KRow → Row → Prop} (hinj : ∀ x r r', J x r → J x r' → r = r') : ∀ {L : List KRow} {rs : List Row}, Paired J L rs → rs = L.map (pick J) ∧ ∀ x ∈ L, J x (pick J x)
  | _, _, .nil => ⟨rfl, fun _ h => by cases h⟩
  | _, _, .cons h t => by
    obtain ⟨e, k⟩ := pick_map hinj t
    refine ⟨by rw [List.map_cons, pick_eq hinj h, ← e], fun x hx => ?_⟩
    rcases List.mem_cons.mp hx with rfl | hx
    · rw [pick_eq hinj h]; exact h
    · exact k x hx
theorem paired_map {J : KRow → Row → Prop} : ∀ {L : List KRow}, (∀ x ∈ L, J x (pick J x)) → Paired J L (L.map (pick J))
  | [], _ => .nil
  | x :: L, h => .cons (h x (List.mem_cons_self ..)) (paired_map fun y hy => h y (List.mem_cons_of_mem _ hy))
theorem lt_of_key {x y : KRow} {st : SortSt} {b : Bool} {Q : Option Bool → SortSt → Prop} (hk : PyProof.Rows.kindOf st = κ) (hc : wpAny M A (keyLt' κ x.1 y.1) (fun c s' => c = b ∧ s' = s) (fun _ _ => False) s) (h : Q (some b) st) : PyProof.Rows.wpS M A E s (lt' x y) Q st := by
  rw [lt'_eq]
  refine wpS_bind (wpS_get ?_)
  rw [hk]
  refine wpS_bind (wpS_lift (wpAny_attempt (wpAny_mono hc (fun c s' hq => ?_) fun _ _ e => e.elim)))
  obtain ⟨rfl, rfl⟩ := hq
  exact ⟨rfl, wpS_pure h⟩
theorem sort_core {J : KRow → Row → Prop} {lo : Row → Row → Bool} (W : SWO lo) (hinj : ∀ x r r', J x r → J x r' → r = r')
    (hcmp : ∀ x y r r', J x r → J y r' → wpAny M A (keyLt' κ x.1 y.1) (fun c s' => c = lo r r' ∧ s' = s) (fun _ _ => False) s) {L : List KRow} {rs : List Row} (hJ : Paired J L rs) (h2 : 2 ≤ L.length) {Q : Unit → SortSt → Prop}
    (h : ∀ st' L' rs', failedOf st' = none → arrOf st' = L'.toArray → Paired J L' rs' → rs'.Perm rs → rs'.Pairwise (fun a b => lo b a = false) → Q () st') :
    PyProof.Rows.wpS M A E s sortRuns' Q (SortSt.mk' κ L.toArray #[] 7 none) := by
  obtain ⟨hrs, hP⟩ := pick_map hinj hJ
  have hL : LtOk M A E s κ (fun x => x ∈ L) (fun x => (rank lo rs (pick J x) : Int)) := fun x y st Q hx hy hk hq => by
    refine lt_of_key hk (hcmp x y _ _ (hP x hx) (hP y hy)) ?_
    have hm : pick J x ∈ rs := by rw [hrs]; exact List.mem_map_of_mem hx
    have e : decide ((rank lo rs (pick J x) : Int) < (rank lo rs (pick J y) : Int)) = lo (pick J x) (pick J y) := by
      have := rank_lt W (b := pick J y) hm
      cases hc : lo (pick J x) (pick J y) with
      | true => rw [decide_eq_true]; have := this.mp hc; (first | lia | omega)
      | false => rw [decide_eq_false]; intro hlt; have := this.mpr (by (exact a82 hlt)); rw [hc] at this; cases this
    rw [← e]; exact hq
  refine sortRuns_ok (a₀ := L.toArray) hL (fun i x hx => ?_) ⟨.refl _, rfl, rfl⟩ rfl (by simpa using h2) fun st' B' hs => ?_
  · have := (Array.getElem?_eq_some_iff.mp hx).2; rw [← this]; simp
  · have hp : (arrOf st').toList.Perm L := by simpa using B'.perm
    have hP' : ∀ x ∈ (arrOf st').toList, J x (pick J x) := fun x hx => hP x (hp.mem_iff.mp hx)
    refine h st' (arrOf st').toList ((arrOf st').toList.map (pick J)) B'.failed (by simp) (paired_map hP') (by rw [hrs]; exact hp.map _) ?_
    have hz : (arrOf st').size = L.toArray.size := B'.size
    refine List.pairwise_iff_getElem.mpr fun i j hi hj hij => ?_
    simp only [List.length_map, Array.length_toList] at hi hj
    have e1 : (arrOf st')[i]? = some (arrOf st')[i] := getElem?_pos _ i hi
    have e2 : (arrOf st')[j]? = some (arrOf st')[j] := getElem?_pos _ j hj
    have := hs i j (Nat.zero_le _) (Nat.le_of_lt hij) (by rw [← hz]; exact hj)
    rw [kk_of e1, kk_of e2] at this
    simp only [List.getElem_map, Array.getElem_toList]
    cases hc : lo (pick J (arrOf st')[j]) (pick J (arrOf st')[i]) with
    | false => rfl
    | true =>
      have hm : pick J (arrOf st')[j] ∈ rs := by rw [hrs]; exact List.mem_map_of_mem (hp.mem_iff.mp (by simp))
      have := (rank_lt W hm).mp hc
      (exact (a334 ‹_› this).elim)
end
def nameLt (a b : Row) : Bool := decide (a.1 < b.1)
theorem list_tri (a b : List Nat) : a < b ∨ a = b ∨ b < a := by
  by_cases h1 : a < b
  · exact .inl h1
  · by_cases h2 : b < a
    · exact .inr (.inr h2)
    · exact .inr (.inl (List.le_antisymm (List.not_lt.mp h2) (List.not_lt.mp h1)))
theorem nameLt_swo : SWO nameLt := by
  refine ⟨fun a => ?_, fun a b c h1 h2 => ?_, fun a b c h => ?_⟩
  · simp [nameLt, List.lt_irrefl]
  · simp only [nameLt, decide_eq_true_eq] at *; exact List.lt_trans h1 h2
  · simp only [nameLt, decide_eq_true_eq] at *
    rcases list_tri a.1 b.1 with q | q | q
    · exact .inl q
    · rw [← q]; exact .inr h
    · exact .inr (List.lt_trans q h)
end Mine

set_option autoImplicit false
set_option genSizeOf false
set_option genInjectivity false
namespace Mine
open PySem PyProof.Rows
inductive V where
  | unb | none | bool (b : Bool) | int (i : Int) | str (s : List Nat) | tup (xs : List V) | lst (xs : List V) | scr (xs : List V) | ref (a : Addr) | rng (a b : Int) | prim (v : Value) | obj (P : Addr → Obj → Addr → Obj → Prop)
abbrev Fz := Addr → Option Obj
inductive Oc where
  | lst (xs : List V) | ro (xs : List V) | tr (w : Bool) (k : V) (b : Addr)
def Oc.rw : Oc → Bool
  | .lst _ => true
  | .ro _ => false
  | .tr w _ _ => w
abbrev Ow := Addr → Option Oc
noncomputable def Ow.put (σ : Ow) (a : Addr) (c : Oc) : Ow := fun b => if b = a then some c else σ b
noncomputable def Ow.set (σ : Ow) (a : Addr) (xs : List V) : Ow := σ.put a (.lst xs)
theorem Ow.put_self (σ : Ow) (a : Addr) (c : Oc) : σ.put a c a = some c := if_pos rfl
theorem Ow.put_ne (σ : Ow) {a b : Addr} (c : Oc) (h : b ≠ a) : σ.put a c b = σ b := if_neg h
theorem Ow.set_self (σ : Ow) (a : Addr) (xs : List V) : σ.set a xs a = some (.lst xs) := if_pos rfl
theorem Ow.set_ne (σ : Ow) {a b : Addr} (xs : List V) (h : b ≠ a) : σ.set a xs b = σ b := if_neg h
noncomputable def Fz.add (F : Fz) (a : Addr) (o : Obj) : Fz := fun b => if b = a then some o else F b
def lobj (vs : List Value) (n : Nat) : Obj := { cls := .type "list", data := .seq vs.toArray n }
def tobj (vs : List Value) (n : Nat) : Obj := { cls := .type "tuple", data := .seq vs.toArray n }
mutual
def Rel (F : Fz) : V → Value → Prop
  | .unb, _ => True
  | .none, v => v = .none
  | .bool b, v => v = .bool b
  | .int i, v => ∃ t, v = .int i t
  | .str s, v => ∃ t, v = .str ⟨s.toArray⟩ t
  | .tup xs, v => ∃ a vs, v = .ref a ∧ (∃ n, F a = some (tobj vs n)) ∧ RelL F xs vs
  | .lst xs, v => ∃ a vs, v = .ref a ∧ (∃ n, F a = some (lobj vs n)) ∧ RelL F xs vs
  | .scr xs, v => ∃ a vs, v = .ref a ∧ (∃ o, F a = some o ∧ o.cls = .type "list" ∧ ∃ n, o.data = .seq vs.toArray n) ∧ RelL F xs vs
  | .ref a, v => v = .ref a
  | .rng a b, v => (-(2 ^ 62) ≤ a ∧ a < 2 ^ 62 ∧ -(2 ^ 62) ≤ b ∧ b < 2 ^ 62) ∧ ∃ r t u w, v = .ref r ∧ F r = some { cls := .type "range", dict := none, data := .fields #[.int a t, .int b u, .int 1 w], slots := #[] }
  | .prim w, v => v = w
  | .obj P, v => ∃ a o d od, v = .ref a ∧ F a = some o ∧ F d = some od ∧ P a o d od
def RelL (F : Fz) : List V → List Value → Prop
  | [], vs => vs = []
  | x :: xs, vs => ∃ v ws, vs = v :: ws ∧ Rel F x v ∧ RelL F xs ws
end
mutual
theorem Rel.mono {F F' : Fz} (k : ∀ a o, F a = some o → F' a = some o) : ∀ {x : V} {v : Value}, Rel F x v → Rel F' x v
  | .unb, _, _ => trivial
  | .none, _, r => r
  | .bool _, _, r => r
  | .int _, _, r => r
  | .str _, _, r => r
  | .tup _, _, r => r.imp fun _ r => r.imp fun _ r => ⟨r.1, r.2.1.imp fun _ => k _ _, RelL.mono k r.2.2⟩
  | .lst _, _, r => r.imp fun _ r => r.imp fun _ r => ⟨r.1, r.2.1.imp fun _ => k _ _, RelL.mono k r.2.2⟩
  | .scr _, _, r => r.imp fun _ r => r.imp fun _ r => ⟨r.1, r.2.1.imp fun _ q => ⟨k _ _ q.1, q.2⟩, RelL.mono k r.2.2⟩
  | .ref _, _, r => r
  | .rng _ _, _, r => ⟨r.1, r.2.imp fun _ r => r.imp fun _ r => r.imp fun _ r => r.imp fun _ r => ⟨r.1, k _ _ r.2⟩⟩
  | .prim _, _, r => r
  | .obj _, _, r => r.imp fun _ r => r.imp fun _ r => r.imp fun _ r => r.imp fun _ r => ⟨r.1, k _ _ r.2.1, k _ _ r.2.2.1, r.2.2.2⟩
theorem RelL.mono {F F' : Fz} (k : ∀ a o, F a = some o → F' a = some o) : ∀ {xs : List V} {vs : List Value}, RelL F xs vs → RelL F' xs vs
  | [], _, r => r
  | _ :: _, _, r => r.imp fun _ r => r.imp fun _ r => ⟨r.1, Rel.mono k r.2.1, RelL.mono k r.2.2⟩
end
section
variable {F : Fz}
theorem RelL.length : ∀ {xs : List V} {vs : List Value}, RelL F xs vs → vs.length = xs.length
  | [], _, rfl => rfl
  | _ :: _, _, ⟨_, _, e, _, r⟩ => e ▸ congrArg Nat.succ (RelL.length r)
theorem RelL.get : ∀ {xs : List V} {vs : List Value} {i : Nat} {x : V}, RelL F xs vs → xs[i]? = some x → ∃ v, vs[i]? = some v ∧ Rel F x v
  | [], _, _, _, _, e => nomatch e
  | _ :: _, _, 0, _, ⟨v, _, e, a, _⟩, q => ⟨v, e ▸ rfl, Option.some.inj q ▸ a⟩
  | _ :: _, _, i + 1, _, ⟨_, _, e, _, r⟩, q => e ▸ r.get (i := i) q
theorem RelL.append : ∀ {xs : List V} {vs : List Value} {ys : List V} {ws : List Value}, RelL F xs vs → RelL F ys ws → RelL F (xs ++ ys) (vs ++ ws)
  | [], _, _, _, rfl, r => r
  | _ :: _, _, _, _, ⟨v, us, e, a, b⟩, r => ⟨v, us ++ _, e ▸ rfl, a, b.append r⟩
theorem RelL.take : ∀ {xs : List V} {vs : List Value} (n : Nat), RelL F xs vs → RelL F (xs.take n) (vs.take n)
  | _, _, 0, _ => rfl
  | [], _, _ + 1, rfl => rfl
  | _ :: _, _, n + 1, ⟨v, us, e, a, b⟩ => ⟨v, us.take n, e ▸ rfl, a, b.take n⟩
theorem RelL.drop : ∀ {xs : List V} {vs : List Value} (n : Nat), RelL F xs vs → RelL F (xs.drop n) (vs.drop n)
  | _, _, 0, r => r
  | [], _, _ + 1, rfl => rfl
  | _ :: _, _, n + 1, ⟨_, _, e, _, b⟩ => e ▸ b.drop n
theorem RelL.one {x : V} {v : Value} (r : Rel F x v) : RelL F [x] [v] := ⟨v, [], rfl, r, rfl⟩
def RelO (F : Fz) (x : V) (ov : Option Value) : Prop := x ≠ .unb → ∃ v, ov = some v ∧ Rel F x v
theorem RelO.mono {F' : Fz} (k : ∀ a o, F a = some o → F' a = some o) {x : V} {ov : Option Value} (r : RelO F x ov) : RelO F' x ov := fun h => (r h).imp fun _ q => ⟨q.1, q.2.mono k⟩
end
def OcR (F : Fz) (o : Obj) : Oc → Prop
  | .lst xs => ∃ vs n, o = lobj vs n ∧ RelL F xs vs
  | .ro xs => ∃ vs n, o = lobj vs n ∧ RelL F xs vs
  | .tr _ k b => ∃ es ep v, o.data = .dict es ep ∧ StrKeys es ∧ UniqKeys es ∧ nsFind es "kept" = some v ∧ nsFind es "past" = some (.ref b) ∧ (∀ n : Str, n ≠ "kept" → n ≠ "past" → nsFind es n = none) ∧ (∀ i, v ≠ .builtin i) ∧ Rel F k v
theorem OcR.mono {F F' : Fz} {o : Obj} (k : ∀ a o, F a = some o → F' a = some o) : ∀ {c : Oc}, OcR F o c → OcR F' o c
  | .lst _, ⟨vs, n, e, r⟩ => ⟨vs, n, e, r.mono k⟩
  | .ro _, ⟨vs, n, e, r⟩ => ⟨vs, n, e, r.mono k⟩
  | .tr _ _ _, ⟨es, ep, v, h1, h2, h3, h4, h5, h6, h7, r⟩ => ⟨es, ep, v, h1, h2, h3, h4, h5, h6, h7, r.mono k⟩
def KeepO (o o' : Obj) : Prop := o' = o ∨ ((∃ es n, o.data = .dict es n) ∧ ∃ sl, o' = { o with slots := sl })
theorem KeepO.trans {a b c : Obj} (x : KeepO a b) (y : KeepO b c) : KeepO a c := by
  rcases x with rfl | ⟨hd, sl, rfl⟩
  · exact y
  · rcases y with rfl | ⟨_, sl', rfl⟩
    · exact .inr ⟨hd, sl, rfl⟩
    · exact .inr ⟨hd, sl', rfl⟩
theorem KeepO.data {a b : Obj} (x : KeepO a b) : b.data = a.data := by
  rcases x with rfl | ⟨_, _, rfl⟩ <;> rfl
theorem OcR.keep {F : Fz} {o o' : Obj} (k : KeepO o o') : ∀ {c : Oc}, OcR F o c → OcR F o' c
  | .lst _, ⟨vs, n, e, r⟩ => by
    rcases k with rfl | ⟨⟨_, _, h⟩, _⟩
    · exact ⟨vs, n, e, r⟩
    · subst e; cases h
  | .ro _, ⟨vs, n, e, r⟩ => by
    rcases k with rfl | ⟨⟨_, _, h⟩, _⟩
    · exact ⟨vs, n, e, r⟩
    · subst e; cases h
  | .tr _ _ _, ⟨es, ep, v, h1, h⟩ => ⟨es, ep, v, k.data.trans h1, h⟩
def DK (o o' : Obj) : Prop := ∀ es n, o.data = .dict es n → ∃ es n, o'.data = .dict es n
theorem DK.refl (o : Obj) : DK o o := fun es n e => ⟨es, n, e⟩
theorem DK.trans {a b c : Obj} (x : DK a b) (y : DK b c) : DK a c := fun es n e => (x es n e).elim fun es e => e.elim fun n e => y es n e
structure St (D : Addr → Prop) (F : Fz) (s : Shared) (F' : Fz) (s' : Shared) : Prop where
  up : ∀ a o, F a = some o → F' a = some o
  sub : ∀ a o, F' a = some o → s'.heap.get? a = some o
  keepO : ∀ b o, s.heap.get? b = some o → ¬ D b → ∃ o', s'.heap.get? b = some o' ∧ KeepO o o'
  live : ∀ b o, s.heap.get? b = some o → ∃ o', s'.heap.get? b = some o' ∧ DK o o'
  new : ∀ b o, F' b = some o → F b = some o ∨ s.heap.get? b = none
  rest : s' = { s with heap := s'.heap, toks := s'.toks }
abbrev N0 : Addr → Prop := fun _ => False
section
variable {D D' : Addr → Prop} {F F₁ F₂ : Fz} {s s₁ s₂ : Shared}
theorem St.keep (S : St D F s F₁ s₁) (b : Addr) (o : Obj) (e : s.heap.get? b = some o) (d : ¬ D b) (hd : ∀ es n, o.data ≠ .dict es n) : s₁.heap.get? b = some o :=
  (S.keepO b o e d).elim fun _ q => q.2.elim (fun h => h ▸ q.1) fun h => h.1.elim fun es h => h.elim fun n h => absurd h (hd es n)
theorem St.dead (S : St D F s F₁ s₁) {b : Addr} (h : s₁.heap.get? b = none) : s.heap.get? b = none := by
  cases q : s.heap.get? b with
  | none => rfl
  | some o => exact (S.live b o q).elim fun _ e => nomatch h.symm.trans e.1
theorem St.trans (x : St D F s F₁ s₁) (y : St D F₁ s₁ F₂ s₂) : St D F s F₂ s₂ :=
  ⟨fun a o e => y.up a o (x.up a o e), y.sub, fun b o e d => (x.keepO b o e d).elim fun o' q => (y.keepO b o' q.1 d).imp fun _ r => ⟨r.1, q.2.trans r.2⟩, fun b o e => (x.live b o e).elim fun o' e' => (y.live b o' e'.1).imp fun _ r => ⟨r.1, e'.2.trans r.2⟩,
    fun b o e => (y.new b o e).elim (x.new b o) fun q => .inr (x.dead q), by rw [y.rest, x.rest]⟩
theorem St.weaken (x : St D F s F₁ s₁) (h : ∀ b o, s.heap.get? b = some o → D b → D' b) : St D' F s F₁ s₁ :=
  ⟨x.up, x.sub, fun b o e d => x.keepO b o e fun q => d (h b o e q), x.live, x.new, x.rest⟩
theorem St.any (x : St N0 F s F₁ s₁) : St D F s F₁ s₁ := x.weaken fun _ _ _ => False.elim
theorem St.grow {h' : Heap} {t : Nat} (sub : ∀ a o, F a = some o → s.heap.get? a = some o) (k : ∀ b o, s.heap.get? b = some o → h'.get? b = some o) : St D F s F { s with heap := h', toks := t } :=
  ⟨fun _ _ e => e, fun a o e => k a o (sub a o e), fun b o e _ => ⟨o, k b o e, .inl rfl⟩, fun b o e => ⟨o, k b o e, .refl o⟩, fun _ _ e => .inl e, rfl⟩
theorem St.refl (sub : ∀ a o, F a = some o → s.heap.get? a = some o) : St D F s F s := St.grow (h' := s.heap) (t := s.toks) sub fun _ _ e => e
theorem size_none (h : Heap) : h.get? h.objs.size = none := by
  cases q : h.get? h.objs.size with
  | none => rfl
  | some o => exact absurd (Heap.lt_size q) (Nat.lt_irrefl _)
theorem St.freeze (S : St D F s F₁ s₁) {a : Addr} {o : Obj} (ha : s.heap.get? a = none) (ho : s₁.heap.get? a = some o) (hn : F₁ a = none) : St D F s (F₁.add a o) s₁ := by
  refine ⟨fun b p e => ?_, fun b p e => ?_, S.keepO, S.live, fun b p e => ?_, S.rest⟩ <;> by_cases h : b = a
  · exact nomatch (h ▸ S.up b p e : F₁ a = some p).symm.trans hn
  · exact (if_neg h).trans (S.up b p e)
  · subst h; exact (Option.some.inj ((if_pos rfl).symm.trans e)) ▸ ho
  · exact S.sub b p ((if_neg h).symm.trans e)
  · exact .inr (h ▸ ha)
  · exact S.new b p ((if_neg h).symm.trans e)
theorem Fz.add_self {a : Addr} {o : Obj} : F.add a o a = some o := if_pos rfl
end
end Mine

set_option autoImplicit false
set_option linter.all false
set_option genSizeOf false
set_option genInjectivity false
set_option maxRecDepth 100000
namespace Mine
open PySem PyProof.Rows
def blts : List (Str × Value) := [("len", .builtin "len"), ("isinstance", .builtin "isinstance"), ("range", .type "range"), ("min", .builtin "min"), ("int", .type "int"), ("tuple", .type "tuple"), ("list", .type "list"), ("sorted", .builtin "sorted"), ("ord", .builtin "ord"), ("all", .builtin "all"), ("str", .type "str"), ("bool", .type "bool"), ("set", .type "set")]
structure Gl where
  prog : Program
  w : World
  B : Heap
  mg : Str → Option Value
  mb : Str → Option Value
  d : Nat
abbrev Gl.M (G : Gl) : Model := model G.prog G.w
abbrev Gl.dn (G : Gl) : Gl := ⟨G.prog, G.w, G.B, G.mg, G.mb, G.d - 1⟩
structure Gl.Ok (G : Gl) : Prop where
  g : G.B.Ns mainGlobals G.mg
  b : G.B.Ns builtinsNs G.mb
  nolimit : G.B.NoLimit
  blt : ∀ (i : Nat) (x : Str) (v : Value), blts[i]? = some (x, v) → G.mg x = none ∧ G.mb x = some v
def FrOk (F : Fz) (h : Heap) (l : List Env) : Prop := ∀ env ∈ l, env.scope.kind ≠ .module ∧ ∃ L, env.frame = some L ∧ F L = none ∧ ∃ o es n, h.get? L = some o ∧ o.data = .dict es n
def NoFr (A : Around) (q : Addr) : Prop := ∀ l, A.frames = some l → ∀ env ∈ l, env.frame ≠ some q
structure Rm (G : Gl) (A : Around) (F : Fz) (s : Shared) : Prop where
  go : G.Ok
  base : ∀ a o, G.B.get? a = some o → F a = some o
  sub : ∀ a o, F a = some o → s.heap.get? a = some o
  depth : A.depth + G.d ≤ recursionLimit
  units : A.units + 10 * G.d + 100 ≤ cLine
  handled : A.handled = none
  frames : ∃ l, A.frames = some l ∧ FrOk F s.heap l
structure Sx where
  sc : Scope
  ns : List Str
def nameOK (K : Sx) (i : Nat) (x : Str) : Bool :=
  K.ns[i]? == some x && (K.sc.names.lookup x == some .local || K.sc.names.lookup x == some .cell) && !(x == ("__debug__" : Str))
def globOK (K : Sx) (x : Str) : Bool := K.sc.names.lookup x == some .globalImplicit && !(x == ("__debug__" : Str))
structure LOk (K : Sx) (env : Env) (ρ : List V) (F : Fz) (h : Heap) : Prop where
  len : ρ.length = K.ns.length
  out : F env.locals = none
  vars : ∃ m, h.Ns env.locals m ∧ ∀ (i : Nat) (x : Str) (v : V), K.ns[i]? = some x → ρ[i]? = some v →
    (K.sc.names.lookup x = some .local → RelO F v (m x)) ∧
    (K.sc.names.lookup x = some .cell → ∃ c ov, env.cells.lookup x = some c ∧ h.IsCell c ov ∧ RelO F v ov ∧ F c = none)
structure EOk (G : Gl) (K : Sx) (A : Around) (env : Env) (ρ : List V) (σ : Ow) (F : Fz) (s : Shared) : Prop where
  rm : Rm G A F s
  sc : env.scope = K.sc
  kind : env.scope.kind = .function
  globals : env.globals = mainGlobals
  builtins : env.builtins = builtinsNs
  own : ∀ a c, σ a = some c → F a = none ∧ ∃ o, s.heap.get? a = some o ∧ OcR F o c
  loc : LOk K env ρ F s.heap
section
variable {G : Gl} {K : Sx} {A : Around} {env : Env} {ρ : List V} {σ : Ow} {F F' : Fz} {s s' : Shared} {D : Addr → Prop}
theorem St.out (S : St D F s F' s') {a : Addr} {o : Obj} (h : F a = none) (ho : s.heap.get? a = some o) : F' a = none := by
  cases q : F' a with
  | none => rfl
  | some p => exact (S.new a p q).elim (fun e => nomatch h.symm.trans e) fun e => nomatch ho.symm.trans e
theorem FrOk.step {l : List Env} (h : FrOk F s.heap l) (S : St D F s F' s') : FrOk F' s'.heap l := fun env m => (h env m).imp id fun q => q.imp fun _ q => ⟨q.1, q.2.2.elim fun _ r => r.elim fun _ r => r.elim fun _ r => S.out q.2.1 r.1,
  q.2.2.elim fun o r => r.elim fun es r => r.elim fun n r => (S.live _ o r.1).imp fun _ t => (t.2 es n r.2).imp fun _ u => u.imp fun _ u => ⟨t.1, u⟩⟩
theorem Rm.step (R : Rm G A F s) (S : St D F s F' s') : Rm G A F' s' := ⟨R.go, fun a o e => S.up a o (R.base a o e), S.sub, R.depth, R.units, R.handled, R.frames.imp fun _ q => ⟨q.1, q.2.step S⟩⟩
theorem Rm.nofr (R : Rm G A F s) {q : Addr} (h : ∀ o es n, s.heap.get? q = some o → o.data ≠ .dict es n) : NoFr A q := fun l e env m hq => R.frames.elim fun l' r => by
  cases e.symm.trans r.1
  obtain ⟨_, L, hL, _, o, es, n, ho, hd⟩ := r.2 env m
  cases hq.symm.trans hL
  exact h o es n ho hd
theorem Rm.frs (R : Rm G A F s) {F' : Fz} {h' : Heap} (k : ∀ L, ¬ NoFr A L → F L = none → (∃ o es n, s.heap.get? L = some o ∧ o.data = .dict es n) → F' L = none ∧ ∃ o es n, h'.get? L = some o ∧ o.data = .dict es n) : ∃ l, A.frames = some l ∧ FrOk F' h' l :=
  R.frames.imp fun l r => ⟨r.1, fun env m => (r.2 env m).imp id fun t => t.imp fun L t => ⟨t.1, k L (fun hn => hn l r.1 env m t.1) t.2.1 t.2.2⟩⟩
theorem ns_keepO {h h' : Heap} {a : Addr} {m : Str → Option Value} (hn : h.Ns a m) (k : ∀ o, h.get? a = some o → ∃ o', h'.get? a = some o' ∧ KeepO o o') : h'.Ns a m :=
  hn.elim fun o r => r.elim fun es r => r.elim fun ep r => (k o r.1).elim fun o' q => ⟨o', es, ep, q.1, q.2.data.trans r.2.1, r.2.2⟩
theorem ns_keep {h h' : Heap} {a : Addr} {m : Str → Option Value} (hn : h.Ns a m) (k : ∀ o, h.get? a = some o → h'.get? a = some o) : h'.Ns a m := hn.imp fun _ r => r.imp fun _ r => r.imp fun _ r => ⟨k _ r.1, r.2⟩
theorem Ns_obj {h : Heap} {a : Addr} {m : Str → Option Value} (hn : h.Ns a m) : ∃ o, h.get? a = some o := hn.imp fun _ r => r.elim fun _ r => r.elim fun _ r => r.1
theorem LOk.step (L : LOk K env ρ F s.heap) (S : St N0 F s F' s') : LOk K env ρ F' s'.heap :=
  ⟨L.len, L.vars.elim fun _ q => (Ns_obj q.1).elim fun _ e => S.out L.out e, L.vars.imp fun _ q => ⟨ns_keepO q.1 fun o e => S.keepO _ o e id, fun i x v hx hv => ⟨fun k => ((q.2 i x v hx hv).1 k).mono S.up, fun k =>
    ((q.2 i x v hx hv).2 k).imp fun _ r => r.imp fun _ r => ⟨r.1, r.2.1.imp fun _ t => ⟨S.keep _ _ t.1 id (fun _ _ e => nomatch t.2.symm.trans e), t.2⟩, r.2.2.1.mono S.up, r.2.1.elim fun _ t => S.out r.2.2.2 t.1⟩⟩⟩⟩
theorem EOk.step (E : EOk G K A env ρ σ F s) (S : St N0 F s F' s') : EOk G K A env ρ σ F' s' :=
  ⟨E.rm.step S, E.sc, E.kind, E.globals, E.builtins, fun a xs q => (E.own a xs q).elim fun hF r => r.elim fun o r => ⟨S.out hF r.1, (S.keepO _ _ r.1 id).imp fun _ t => ⟨t.1, (r.2.keep t.2).mono S.up⟩⟩, E.loc.step S⟩
theorem EOk.lst (E : EOk G K A env ρ σ F s) (a : Addr) (xs : List V) (q : σ a = some (.lst xs)) : F a = none ∧ ∃ vs n, s.heap.get? a = some (lobj vs n) ∧ RelL F xs vs :=
  (E.own a _ q).imp id fun r => r.elim fun _ r => r.2.elim fun vs t => t.elim fun n t => ⟨vs, n, t.1 ▸ r.1, t.2⟩
end
inductive PV (F : Fz) (s : Shared) (x : V) (v : Value) (s' : Shared) : Prop
  | mk (F' : Fz) (S : St N0 F s F' s') (r : Rel F' x v)
inductive PL (F : Fz) (s : Shared) (x : List V) (v : List Value) (s' : Shared) : Prop
  | mk (F' : Fz) (S : St N0 F s F' s') (r : RelL F' x v)
inductive PB (F : Fz) (s : Shared) (x : Bool) (v : Bool) (s' : Shared) : Prop
  | mk (F' : Fz) (S : St N0 F s F' s') (r : v = x)
def Ev (G : Gl) (K : Sx) (ρ : List V) (σ : Ow) (e : PySem.Expr) (x : V) : Prop :=
  ∀ A env F s E, EOk G K A env ρ σ F s → wpAny G.M A (eval e env) (PV F s x) E s
def Tr (G : Gl) (K : Sx) (ρ : List V) (σ : Ow) (e : PySem.Expr) (b : Bool) : Prop :=
  ∀ A env F s E, EOk G K A env ρ σ F s → wpAny G.M A (isTrue e env (eval e env)) (PB F s b) E s
section
variable {G : Gl} {K : Sx} {A : Around} {env : Env} {ρ : List V} {σ : Ow} {F F₁ : Fz} {s s₁ : Shared} {E : Value → Shared → Prop} {e l r : PySem.Expr} {x y z : V} {p q : Pos}
theorem PV.from (S : St N0 F s F₁ s₁) {v : Value} {s' : Shared} (h : PV F₁ s₁ x v s') : PV F s x v s' := h.casesOn fun F' S' r => ⟨F', S.trans S', r⟩
theorem wp_from (S : St N0 F s F₁ s₁) {M : Model} {t : Sem Value} (h : wpAny M A t (PV F₁ s₁ x) E s₁) : wpAny M A t (PV F s x) E s₁ := wpAny_mono h (fun _ _ q => q.from S) fun _ _ e => e
theorem Ev.bind {R : Value → Shared → Prop} (h : Ev G K ρ σ e x) (k₀ : EOk G K A env ρ σ F s) (k : ∀ v F' s', St N0 F s F' s' → Rel F' x v → EOk G K A env ρ σ F' s' → R v s') : wpAny G.M A (eval e env) R E s :=
  wpAny_mono (h A env F s E k₀) (fun v s' q => q.casesOn fun F' S r => k v F' s' S r (k₀.step S)) fun _ _ e => e
theorem Tr.bind {b : Bool} {R : Bool → Shared → Prop} (h : Tr G K ρ σ e b) (k₀ : EOk G K A env ρ σ F s) (k : ∀ F' s', St N0 F s F' s' → EOk G K A env ρ σ F' s' → R b s') : wpAny G.M A (isTrue e env (eval e env)) R E s :=
  wpAny_mono (h A env F s E k₀) (fun v s' q => q.casesOn fun F' S r => r ▸ k F' s' S (k₀.step S)) fun _ _ e => e
theorem pv_same {v : Value} (k : EOk G K A env ρ σ F s) (r : Rel F x v) : PV F s x v s := ⟨F, .refl k.rm.sub, r⟩
theorem pv_tok {v : Value} (R : Rm G A F s) (t : Nat) (r : Rel F x v) : PV F s x v { s with toks := t } := ⟨F, .grow R.sub fun _ _ e => e, r⟩
theorem pv_push {v : Value} (R : Rm G A F s) (o : Obj) (t : Nat) (r : Rel (F.add s.heap.objs.size o) x v) (hf : Obj.isFreed o = false) : PV F s x v { s with heap := s.heap.push o, toks := t } :=
  ⟨_, (St.grow (t := t) R.sub fun _ _ e => Heap.get?_push_of_some _ e).freeze (size_none _) (Heap.get?_push_size _ hf) (by
    cases q : F s.heap.objs.size with
    | none => rfl
    | some o => exact nomatch (size_none s.heap).symm.trans (R.sub _ _ q)), r⟩
theorem ev_none {k : Nat} : Ev G K ρ σ (.Constant .none k p) .none := fun _ _ _ _ _ k => by rw [eval_Constant]; exact wpAny_pure (pv_same k rfl)
theorem ev_bool {b : Bool} {k : Nat} : Ev G K ρ σ (.Constant (.bool b) k p) (.bool b) := fun _ _ _ _ _ k => by rw [eval_Constant]; exact wpAny_pure (pv_same k rfl)
theorem ev_int {i : Int} {k : Nat} : Ev G K ρ σ (.Constant (.int i) k p) (.int i) := fun _ _ _ _ _ k => wpAny_Constant_int (pv_tok k.rm _ ⟨_, rfl⟩)
theorem ev_str {a : Str} {k : Nat} : Ev G K ρ σ (.Constant (.str a) k p) (.str a.cps.toList) := fun _ _ _ _ _ k => Calls.Constant_str (pv_tok k.rm _ ⟨_, rfl⟩)
theorem ev_lit (l : List Nat) {a : Str} {k : Nat} (h : a.cps.toList = l := by decide +kernel) : Ev G K ρ σ (.Constant (.str a) k p) (.str l) := h ▸ ev_str
def V.ok : V → Bool
  | .unb => false
  | _ => true
theorem V.ok_ne (h : x.ok = true) : x ≠ .unb := fun e => by subst e; cases h
theorem nameOK_inv {i : Nat} {n : Str} (h : nameOK K i n = true) : K.ns[i]? = some n ∧ (K.sc.names.lookup n = some .local ∨ K.sc.names.lookup n = some .cell) ∧ (n == ("__debug__" : Str)) = false := by
  have h1 := Bool.and_eq_true_iff.mp h
  have h2 := Bool.and_eq_true_iff.mp h1.1
  exact ⟨eq_of_beq h2.1, (Bool.or_eq_true_iff.mp h2.2).imp eq_of_beq eq_of_beq, (Bool.not_eq_true' _).mp h1.2⟩
theorem globOK_inv {n : Str} (h : globOK K n = true) : K.sc.names.lookup n = some .globalImplicit ∧ (n == ("__debug__" : Str)) = false := by
  have h1 := Bool.and_eq_true_iff.mp h
  exact ⟨eq_of_beq h1.1, (Bool.not_eq_true' _).mp h1.2⟩
theorem kindOf_eq (k : EOk G K A env ρ σ F s) (n : Str) : env.kindOf n = K.sc.names.lookup n := by rw [← k.sc]; rfl
theorem name_var {i : Nat} {n : Str} {Q : Value → Shared → Prop} (k : EOk G K A env ρ σ F s) (hv : ρ[i]? = some x) (hu : x.ok = true) (h : nameOK K i n = true) (h2 : ∀ v, Rel F x v → Q v s) : wpAny G.M A (eval (.Name n p) env) Q E s := by
  have q := nameOK_inv h
  refine k.loc.vars.elim fun m r => ?_
  have r2 := r.2 i n x q.1 hv
  refine q.2.1.elim (fun hk => ?_) fun hk => ?_
  · exact (r2.1 hk (V.ok_ne hu)).elim fun v t => wpAny_Name (wpAny_loadName_local k.kind ((kindOf_eq k n).trans hk) r.1 t.1 (h2 _ t.2)) q.2.2
  · refine (r2.2 hk).elim fun c t => t.elim fun ov t => (t.2.2.1 (V.ok_ne hu)).elim fun v u => ?_
    exact wpAny_Name (wpAny_loadName_cell k.kind ((kindOf_eq k n).trans hk) t.1 (u.1 ▸ t.2.1) (h2 _ u.2)) q.2.2
theorem ev_var (i : Nat) {n : Str} (hv : ρ[i]? = some x) (hu : x.ok = true := by rfl) (h : nameOK K i n = true := by decide +kernel) : Ev G K ρ σ (.Name n p) x := fun A env F s E k => name_var k hv hu h fun _ r => pv_same k r
theorem Rm.in (R : Rm G A F s) : ∀ b o, G.B.get? b = some o → s.heap.get? b = some o := fun b o e => R.sub b o (R.base b o e)
theorem name_global {n : Str} {v : Value} {Q : Value → Shared → Prop} (k : EOk G K A env ρ σ F s) (hv : G.mg n = some v ∨ (G.mg n = none ∧ G.mb n = some v)) (h : globOK K n = true) (h2 : Q v s) : wpAny G.M A (eval (.Name n p) env) Q E s := by
  have hg := globOK_inv h
  refine Calls.Name_function_global k.kind ((kindOf_eq k n).trans hg.1) ?_ hg.2
  have hG : s.heap.Ns env.globals G.mg := by rw [k.globals]; exact k.rm.go.g.keeps k.rm.in
  exact hv.elim (fun hv => Calls.loadGlobal_global hG hv h2) fun hv => Calls.loadGlobal_builtin hG hv.1 (by rw [k.builtins]; exact k.rm.go.b.keeps k.rm.in) hv.2 h2
theorem ev_blt (i : Nat) {n : Str} {v : Value} (hb : blts[i]? = some (n, v)) (h : globOK K n = true) : Ev G K ρ σ (.Name n p) (.prim v) := fun _ _ _ _ _ k => name_global k (.inr (k.rm.go.blt i n v hb)) h (pv_same k rfl)
theorem ev_bin {op : Operator} (h1 : Ev G K ρ σ l x) (h2 : Ev G K ρ σ r y) (h : ∀ A F s E v w, Rm G A F s → Rel F x v → Rel F y w → wpAny G.M A (binaryOp op v w) (PV F s z) E s) : Ev G K ρ σ (.BinOp l op r p) z :=
  fun A env F s E k => wpAny_BinOp (h1.bind k fun v F₁ s₁ S₁ r₁ k₁ => h2.bind k₁ fun w F₂ s₂ S₂ r₂ k₂ => wp_from (S₁.trans S₂) (h A F₂ s₂ E v w k₂.rm (r₁.mono S₂.up) r₂))
variable {i j : Int} {a b : List Nat} {xs ys : List V}
theorem ev_add (h1 : Ev G K ρ σ l (.int i)) (h2 : Ev G K ρ σ r (.int j)) : Ev G K ρ σ (.BinOp l .Add r p) (.int (i + j)) :=
  ev_bin h1 h2 <| by rintro A F s E _ _ R ⟨_, rfl⟩ ⟨_, rfl⟩; exact P.add_int (pv_tok R _ ⟨_, rfl⟩)
theorem ev_sub (h1 : Ev G K ρ σ l (.int i)) (h2 : Ev G K ρ σ r (.int j)) : Ev G K ρ σ (.BinOp l .Sub r p) (.int (i - j)) :=
  ev_bin h1 h2 <| by rintro A F s E _ _ R ⟨_, rfl⟩ ⟨_, rfl⟩; exact P.sub_int (pv_tok R _ ⟨_, rfl⟩)
theorem ev_mul (h1 : Ev G K ρ σ l (.int i)) (h2 : Ev G K ρ σ r (.int j)) (h : IntMulOk i j) : Ev G K ρ σ (.BinOp l .Mult r p) (.int (i * j)) :=
  ev_bin h1 h2 <| by rintro A F s E _ _ R ⟨_, rfl⟩ ⟨_, rfl⟩; exact P.mul_int (pv_tok R _ ⟨_, rfl⟩) h
theorem ev_mod (h1 : Ev G K ρ σ l (.int i)) (h2 : Ev G K ρ σ r (.int j)) (h : 0 < j) : Ev G K ρ σ (.BinOp l .Mod r p) (.int (i % j)) :=
  ev_bin h1 h2 <| by rintro A F s E _ _ R ⟨_, rfl⟩ ⟨_, rfl⟩; exact mod_int' (Int.ne_of_gt h) (Int.fmod_eq_emod_of_nonneg i (Int.le_of_lt h) ▸ pv_tok R _ ⟨_, rfl⟩)
theorem ev_fdiv (h1 : Ev G K ρ σ l (.int i)) (h2 : Ev G K ρ σ r (.int j)) (h : 0 < j) (h' : j < 1073741824) : Ev G K ρ σ (.BinOp l .FloorDiv r p) (.int (i / j)) :=
  ev_bin h1 h2 <| by
    rintro A F s E _ _ R ⟨_, rfl⟩ ⟨_, rfl⟩; exact floordiv_int (Int.ne_of_gt h) (Int.fdiv_eq_ediv_of_nonneg i (Int.le_of_lt h) ▸ pv_tok R _ ⟨_, rfl⟩) (.inl (PyProof.noPylong_small (by (exact a30 h h'))))
theorem length_str (a : List Nat) : (⟨a.toArray⟩ : Str).length = a.length := rfl
theorem append_str (a b : List Nat) : (⟨a.toArray⟩ : Str) ++ (⟨b.toArray⟩ : Str) = ⟨(a ++ b).toArray⟩ := by
  show Str.append _ _ = _
  simp [Str.append]
theorem made_str (R : Rm G A F s) (hl : a.length ≤ sizeLine) : (Made.str ⟨a.toArray⟩).post (PV F s (.str a)) s := ⟨hl, pv_tok R _ ⟨_, rfl⟩⟩
theorem ev_adds (h1 : Ev G K ρ σ l (.str a)) (h2 : Ev G K ρ σ r (.str b)) (h : a.length + b.length ≤ sizeLine) : Ev G K ρ σ (.BinOp l .Add r p) (.str (a ++ b)) :=
  ev_bin h1 h2 <| by
    rintro A F s E _ _ R ⟨_, rfl⟩ ⟨_, rfl⟩
    refine P.add_str ?_
    rw [append_str]
    split
    · rename_i hz
      have : a = [] := List.eq_nil_of_length_eq_zero (eq_of_beq hz)
      subst this; exact pv_tok R s.toks ⟨_, rfl⟩
    · split
      · rename_i hz
        have : b = [] := List.eq_nil_of_length_eq_zero (eq_of_beq hz)
        subst this; rw [List.append_nil]; exact pv_tok R s.toks ⟨_, rfl⟩
      · exact made_str R (by rw [List.length_append]; exact h)
theorem ev_addl (h1 : Ev G K ρ σ l (.lst xs)) (h2 : Ev G K ρ σ r (.lst ys)) (h : xs.length + ys.length ≤ sizeLine) : Ev G K ρ σ (.BinOp l .Add r p) (.lst (xs ++ ys)) :=
  ev_bin h1 h2 <| by
    rintro A F s E _ _ R ⟨_, us, rfl, ⟨n, h1⟩, r1⟩ ⟨_, ws, rfl, ⟨n', h2⟩, r2⟩
    have hp := pv_push (x := .lst (xs ++ ys)) (v := .ref s.heap.objs.size) R (lobj (us ++ ws) 0) s.toks ⟨_, us ++ ws, rfl, ⟨0, Fz.add_self⟩, (RelL.append r1 r2).mono fun a o e => (if_neg (by rintro rfl; exact nomatch (size_none s.heap).symm.trans (R.sub _ _ e))).trans e⟩ rfl
    have he : us.toArray ++ ws.toArray = (us ++ ws).toArray := by simp
    exact P.add_list (R.sub _ _ h1) (R.sub _ _ h2) (by rw [he]; exact hp) (by rw [List.size_toArray, List.size_toArray, r1.length, r2.length]; exact h)
theorem ev_neg (h1 : Ev G K ρ σ l (.int i)) : Ev G K ρ σ (.UnaryOp .USub l p) (.int (-i)) :=
  fun A env F s E k => wpAny_UnaryOp (h1.bind k (by rintro v F₁ s₁ S₁ ⟨_, rfl⟩ k₁; exact P.neg_int (PV.from S₁ (pv_tok (x := .int (-i)) k₁.rm _ ⟨_, rfl⟩))))
end
end Mine

set_option autoImplicit false
set_option linter.all false
set_option genSizeOf false
set_option genInjectivity false
set_option maxRecDepth 100000
namespace Mine
open PySem PyProof.Rows
def Cm (G : Gl) (op : CmpOp) (x y : V) (b : Bool) : Prop := ∀ A F s E v w R, Rm G A F s → Rel F x v → Rel F y w → R (.bool b) s → wpAny G.M A (compareOp op v w) R E s
section
variable {G : Gl} {K : Sx} {ρ : List V} {σ : Ow} {e l r : PySem.Expr} {es : List PySem.Expr} {x y z : V} {p q : Pos} {b c : Bool} {op : CmpOp} {i j : Int} {a a' : List Nat} {xs ys : List V}
theorem ev_cmp (h1 : Ev G K ρ σ l x) (h2 : Ev G K ρ σ r y) (h : Cm G op x y b) (hm : behindInMarks op r = false := by rfl) : Ev G K ρ σ (.Compare l [op] [r] p) (.bool b) :=
  fun A env F s E k => wpAny_Compare1 (h1.bind k fun v F₁ s₁ S₁ r₁ k₁ => h2.bind k₁ fun w F₂ s₂ S₂ r₂ k₂ => h A F₂ s₂ E v w _ k₂.rm (r₁.mono S₂.up) r₂ ⟨F₂, S₁.trans S₂, rfl⟩) hm
theorem tr_cmp (h1 : Ev G K ρ σ l x) (h2 : Ev G K ρ σ r y) (h : Cm G op x y b) (hm : behindInMarks op r = false := by rfl) : Tr G K ρ σ (.Compare l [op] [r] p) b :=
  fun A env F s E k => wpAny_isTrue_Compare1 (h1.bind k fun v F₁ s₁ S₁ r₁ k₁ => h2.bind k₁ fun w F₂ s₂ S₂ r₂ k₂ => h A F₂ s₂ E v w _ k₂.rm (r₁.mono S₂.up) r₂ (wpAny_truthy_bool ⟨F₂, S₁.trans S₂, rfl⟩)) hm
theorem cm_lt : Cm G .Lt (.int i) (.int j) (decide (i < j)) := by rintro A F s E _ _ R _ ⟨_, rfl⟩ ⟨_, rfl⟩ h; exact P.lt_int h
theorem cm_le : Cm G .LtE (.int i) (.int j) (decide (i ≤ j)) := by rintro A F s E _ _ R _ ⟨_, rfl⟩ ⟨_, rfl⟩ h; exact P.le_int h
theorem cm_gt : Cm G .Gt (.int i) (.int j) (decide (j < i)) := by rintro A F s E _ _ R _ ⟨_, rfl⟩ ⟨_, rfl⟩ h; exact P.gt_int h
theorem cm_ge : Cm G .GtE (.int i) (.int j) (decide (j ≤ i)) := by rintro A F s E _ _ R _ ⟨_, rfl⟩ ⟨_, rfl⟩ h; exact P.ge_int h
theorem cm_eqi : Cm G .Eq (.int i) (.int j) (i == j) := by rintro A F s E _ _ R _ ⟨_, rfl⟩ ⟨_, rfl⟩ h; exact P.eq_int h
theorem cm_nei : Cm G .NotEq (.int i) (.int j) (!(i == j)) := by rintro A F s E _ _ R _ ⟨_, rfl⟩ ⟨_, rfl⟩ h; exact P.ne_int h
theorem cm_eqs : Cm G .Eq (.str a) (.str a') (a == a') := by rintro A F s E _ _ R _ ⟨_, rfl⟩ ⟨_, rfl⟩ h; exact P.eq_str h
theorem cm_nes : Cm G .NotEq (.str a) (.str a') (!(a == a')) := by rintro A F s E _ _ R _ ⟨_, rfl⟩ ⟨_, rfl⟩ h; exact P.ne_str h
def V.nn : V → Bool
  | .bool _ | .int _ | .str _ | .tup _ | .lst _ | .ref _ => true
  | _ => false
theorem nn_val {F : Fz} {v : Value} (h : x.nn = true) (r : Rel F x v) : v ≠ .none ∧ plainIs v .none = true := by
  cases x <;> first | (cases h; done) | skip
  · cases show v = .bool _ from r; exact ⟨nofun, rfl⟩
  · obtain ⟨_, rfl⟩ := r; exact ⟨nofun, rfl⟩
  · obtain ⟨_, rfl⟩ := r; exact ⟨nofun, rfl⟩
  · obtain ⟨_, _, rfl, _⟩ := r; exact ⟨nofun, rfl⟩
  · obtain ⟨_, _, rfl, _⟩ := r; exact ⟨nofun, rfl⟩
  · cases show v = .ref _ from r; exact ⟨nofun, rfl⟩
theorem cm_is_none : Cm G .Is .none .none true := by rintro A F s E _ _ R _ rfl rfl h; exact wpAny_is_self rfl h
theorem cm_is_nn (h : x.nn = true) : Cm G .Is x .none false := by rintro A F s E _ _ R _ r rfl h'; exact wpAny_is_other (nn_val h r).2 (nn_val h r).1 h'
theorem cm_isnot (h : Cm G .Is x y b) : Cm G .IsNot x y (!b) := fun A F s E v w R k rv rw' hR => by
  have h' : wpAny G.M A (isSame v w >>= fun b => pure (Value.bool b)) (fun v s' => v = .bool b ∧ s' = s) E s := h A F s E v w _ k rv rw' ⟨rfl, rfl⟩
  show wpAny _ A (isSame v w >>= fun b => pure (.bool (!b))) R E s
  intro Γ p hΓ
  have := h' Γ p hΓ
  rw [Sem.wp_bind'] at this ⊢
  refine Sem.wp_mono _ Γ _ (fun b' p' s' hb => ?_) (fun _ _ _ x => x) _ _ this
  obtain ⟨e, rfl⟩ := hb
  cases e; exact hR
theorem lst_list {F : Fz} {s : Shared} {A : Around} {v : Value} (R : Rm G A F s) (r : Rel F (.lst xs) v) : ∃ a vs, v = .ref a ∧ s.heap.IsList a (List.toArray vs) ∧ vs.length = xs.length ∧ RelL F xs vs :=
  r.imp fun _ r => r.imp fun _ r => ⟨r.1, r.2.1.elim fun n e => ⟨_, R.sub _ _ e, rfl, n, rfl⟩, r.2.2.length, r.2.2⟩
theorem Rm.room {A : Around} {F : Fz} {s : Shared} (R : Rm G A F s) : A.units < cLine := by have := R.units; (exact a10 this)
open PySem.SeqAt in
theorem cm_eq_nil : Cm G .Eq (.lst xs) (.lst []) xs.isEmpty := fun A F s E v w R k rv rw' h => by
  obtain ⟨a, vs, rfl, hl, hn, _⟩ := lst_list k rv
  obtain ⟨a', ws, rfl, hl', hn', _⟩ := lst_list k rw'
  cases List.eq_nil_of_length_eq_zero hn'
  cases xs with
  | nil => cases List.eq_nil_of_length_eq_zero hn; exact RcAt.lists (e := fun _ => true) hl hl' rfl k.room (fun j h1 _ => absurd h1 (Nat.not_lt_zero _)) _ _ _ _ h
  | cons x xs => exact RcAt.lists_lengths hl hl' (by rw [List.size_toArray, hn]; rfl) k.room _ _ _ _ h
open PySem.SeqAt in
def plainTest : PySem.Expr → Bool
  | .UnaryOp .Not _ _ | .BoolOp .. | .IfExp .. | .Compare .. => false
  | _ => true
theorem isTrue_plain (h : plainTest e = true) (env : Env) (w : Sem Value) : isTrue e env w = (do let v ← w; standAt e.pos; holding [v] (truthy v)) := by
  cases e <;> first | rfl | cases h | skip
  rename_i op x p
  cases op <;> first | rfl | cases h
theorem tr_ev (h : Ev G K ρ σ e (.bool b)) (hp : plainTest e = true := by rfl) : Tr G K ρ σ e b := fun A env F s E k => by
  rw [isTrue_plain hp]
  exact wpAny_bind (h.bind k fun v F₁ s₁ S₁ r₁ k₁ => wpAny_bind (wpAny_standAt (wpAny_holding (r₁ ▸ wpAny_truthy_bool ⟨F₁, S₁, rfl⟩))))
theorem tr_not (h : Tr G K ρ σ e b) : Tr G K ρ σ (.UnaryOp .Not e p) (!b) := fun A env F s E k => by
  show wpAny _ A (do return !(← isTrue e env (eval e env))) _ _ s
  exact wpAny_bind (h.bind k fun F₁ s₁ S₁ k₁ => wpAny_pure ⟨F₁, S₁, rfl⟩)
theorem PB.from {F F₁ : Fz} {s s₁ s' : Shared} (S : St N0 F s F₁ s₁) (h : PB F₁ s₁ b c s') : PB F s b c s' := h.casesOn fun F' S' r => ⟨F', S.trans S', r⟩
def TrL (G : Gl) (K : Sx) (ρ : List V) (σ : Ow) (op : BoolOp) (es : List PySem.Expr) (b : Bool) : Prop :=
  ∀ A env F s E, EOk G K A env ρ σ F s → wpAny G.M A (allTrue op es env) (PB F s b) E s
theorem tr_bop {op : BoolOp} (h : TrL G K ρ σ op es b) : Tr G K ρ σ (.BoolOp op es p) b := h
theorem trl_one {op : BoolOp} (h : Tr G K ρ σ e b) : TrL G K ρ σ op [e] b := fun A env F s E k =>
  wpAny_bind (h.bind k fun F₁ s₁ S₁ _ => by cases op <;> cases b <;> exact wpAny_pure ⟨F₁, S₁, rfl⟩)
theorem trl_and (h : Tr G K ρ σ e b) (h2 : b = true → TrL G K ρ σ .And es c) : TrL G K ρ σ .And (e :: es) (b && c) := fun A env F s E k =>
  wpAny_bind (h.bind k fun F₁ s₁ S₁ k₁ => by
    cases b
    · exact wpAny_pure ⟨F₁, S₁, rfl⟩
    · exact wpAny_mono (h2 rfl A env F₁ s₁ E k₁) (fun _ _ q => q.from S₁) fun _ _ e => e)
theorem trl_or (h : Tr G K ρ σ e b) (h2 : b = false → TrL G K ρ σ .Or es c) : TrL G K ρ σ .Or (e :: es) (b || c) := fun A env F s E k =>
  wpAny_bind (h.bind k fun F₁ s₁ S₁ k₁ => by
    cases b
    · exact wpAny_mono (h2 rfl A env F₁ s₁ E k₁) (fun _ _ q => q.from S₁) fun _ _ e => e
    · exact wpAny_pure ⟨F₁, S₁, rfl⟩)
theorem ev_not (h : Ev G K ρ σ e (.bool b)) : Ev G K ρ σ (.UnaryOp .Not e p) (.bool (!b)) := fun A env F s E k => by
  show wpAny _ A (do let v ← eval e env; standAt p; holding [v] (unaryOp .Not v)) _ _ s
  refine wpAny_bind (h.bind k fun v F₁ s₁ S₁ r₁ k₁ => wpAny_bind (wpAny_standAt (wpAny_holding ?_)))
  show wpAny _ A (holding [v] (do return Value.bool (!(← truthy v)))) _ _ s₁
  exact wpAny_holding (wpAny_bind (r₁ ▸ wpAny_truthy_bool (wpAny_pure ⟨F₁, S₁, rfl⟩)))
def EvB (G : Gl) (K : Sx) (ρ : List V) (σ : Ow) (op : BoolOp) (es : List PySem.Expr) (b : Bool) : Prop :=
  ∀ A env F s E p, EOk G K A env ρ σ F s → wpAny G.M A (boolOp p op (evalEach es env)) (PV F s (.bool b)) E s
theorem ev_bop {op : BoolOp} (h : EvB G K ρ σ op es b) : Ev G K ρ σ (.BoolOp op es p) (.bool b) := fun A env F s E k => h A env F s E p k
theorem evb_one {op : BoolOp} (h : Ev G K ρ σ e (.bool b)) : EvB G K ρ σ op [e] b := fun A env F s E _ k => h A env F s E k
theorem evb_and (h : Ev G K ρ σ e (.bool b)) (h2 : b = true → EvB G K ρ σ .And (r :: es) c) : EvB G K ρ σ .And (e :: r :: es) (b && c) := fun A env F s E p k => by
  show wpAny _ A (do
      let v ← eval e env
      standAt p
      let b ← holding [v] (truthy v)
      match BoolOp.And, b with
      | .And, false | .Or, true => pure v
      | _, _ => boolOp p .And (evalEach (r :: es) env)) _ _ s
  refine wpAny_bind (h.bind k fun v F₁ s₁ S₁ r₁ k₁ => wpAny_bind (wpAny_standAt (wpAny_bind (wpAny_holding ?_))))
  cases show v = .bool b from r₁
  refine wpAny_truthy_bool ?_
  cases b
  · exact wpAny_pure ⟨F₁, S₁, rfl⟩
  · exact wp_from S₁ (h2 rfl A env F₁ s₁ E p k₁)
theorem evb_or (h : Ev G K ρ σ e (.bool b)) (h2 : b = false → EvB G K ρ σ .Or (r :: es) c) : EvB G K ρ σ .Or (e :: r :: es) (b || c) := fun A env F s E p k => by
  show wpAny _ A (do
      let v ← eval e env
      standAt p
      let b ← holding [v] (truthy v)
      match BoolOp.Or, b with
      | .And, false | .Or, true => pure v
      | _, _ => boolOp p .Or (evalEach (r :: es) env)) _ _ s
  refine wpAny_bind (h.bind k fun v F₁ s₁ S₁ r₁ k₁ => wpAny_bind (wpAny_standAt (wpAny_bind (wpAny_holding ?_))))
  cases show v = .bool b from r₁
  refine wpAny_truthy_bool ?_
  cases b
  · exact wp_from S₁ (h2 rfl A env F₁ s₁ E p k₁)
  · exact wpAny_pure ⟨F₁, S₁, rfl⟩
def EvL (G : Gl) (K : Sx) (ρ : List V) (σ : Ow) (es : List PySem.Expr) (xs : List V) : Prop :=
  ∀ A env F s E, EOk G K A env ρ σ F s → wpAny G.M A (spliced (es.map fun e => (false, eval e env))) (PL F s xs) E s
theorem evl_nil : EvL G K ρ σ [] [] := fun A env F s E k => Calls.spliced_nil ⟨F, .refl k.rm.sub, rfl⟩
theorem evl_cons (h : Ev G K ρ σ e x) (h2 : EvL G K ρ σ es xs) : EvL G K ρ σ (e :: es) (x :: xs) := fun A env F s E k =>
  Calls.spliced_cons (h.bind k fun v F₁ s₁ S₁ r₁ k₁ => wpAny_mono (h2 A env F₁ s₁ E k₁) (fun vs s₂ q => q.casesOn fun F₂ S₂ r₂ => ⟨F₂, S₁.trans S₂, v, vs, rfl, r₁.mono S₂.up, r₂⟩) fun _ _ e => e)
theorem EvL.bind {A : Around} {env : Env} {F : Fz} {s : Shared} {E : Value → Shared → Prop} {R : List Value → Shared → Prop} (h : EvL G K ρ σ es xs) (k₀ : EOk G K A env ρ σ F s) (k : ∀ v F' s', St N0 F s F' s' → RelL F' xs v → EOk G K A env ρ σ F' s' → R v s') :
    wpAny G.M A (spliced (es.map fun e => (false, eval e env))) R E s :=
  wpAny_mono (h A env F s E k₀) (fun v s' q => q.casesOn fun F' S r => k v F' s' S r (k₀.step S)) fun _ _ e => e
def notStar : PySem.Expr → Bool
  | .Starred .. => false
  | _ => true
theorem starEach_cons (h : notStar e = true) (es : List PySem.Expr) (env : Env) : starEach (e :: es) env = (false, eval e env) :: starEach es env := by
  cases e <;> first | rfl | cases h
theorem back_star (pos : Pos) (env : Env) : ∀ {es : List PySem.Expr}, es.all notStar = true → backTo pos (starEach es env) = es.map fun e => (false, eval e env)
  | [], _ => rfl
  | e :: es, h => by
    have h := Bool.and_eq_true_iff.mp h
    rw [starEach_cons h.1]
    show (false, _) :: backTo pos (starEach es env) = _
    rw [back_star pos env h.2]; rfl
theorem add_up {F : Fz} {s : Shared} {A : Around} (R : Rm G A F s) {ob : Obj} : ∀ a o, F a = some o → F.add s.heap.objs.size ob a = some o := fun a o e =>
  (if_neg (by rintro rfl; exact nomatch (size_none s.heap).symm.trans (R.sub _ _ e))).trans e
theorem newList_ok {A : Around} {F : Fz} {s : Shared} {E : Value → Shared → Prop} {vs : List Value} (R : Rm G A F s) (r : RelL F xs vs) (hl : xs.length ≤ sizeLine) : wpAny G.M A (newList vs) (PV F s (.lst xs)) E s :=
  wpAny_newObj_type (pv_push R (lobj vs 0) s.toks ⟨_, vs, rfl, ⟨0, Fz.add_self⟩, r.mono (add_up R)⟩ rfl) (by show vs.toArray.size ≤ _; rw [List.size_toArray, r.length]; exact hl)
theorem newTuple_ok {A : Around} {F : Fz} {s : Shared} {E : Value → Shared → Prop} {vs : List Value} (R : Rm G A F s) (r : RelL F xs vs) (hl : xs.length ≤ sizeLine) : wpAny G.M A (newTuple vs) (PV F s (.tup xs)) E s :=
  wpAny_newObj_type (pv_push R (tobj vs 0) s.toks ⟨_, vs, rfl, ⟨0, Fz.add_self⟩, r.mono (add_up R)⟩ rfl) (by show vs.toArray.size ≤ _; rw [List.size_toArray, r.length]; exact hl)
theorem ev_list (h : EvL G K ρ σ es xs) (hl : xs.length ≤ sizeLine) (hs : es.all notStar = true := by rfl) : Ev G K ρ σ (.List es p) (.lst xs) := fun A env F s E k => by
  refine List_ ?_
  rw [back_star p env hs]
  exact h.bind k fun vs F₁ s₁ S₁ r k₁ => wp_from S₁ (newList_ok k₁.rm r hl)
theorem ev_tuple {n : Nat} (h : EvL G K ρ σ es xs) (hl : xs.length ≤ sizeLine) (hs : es.all notStar = true := by rfl) : Ev G K ρ σ (.Tuple es n p) (.tup xs) := fun A env F s E k => by
  refine Tuple_ ?_
  rw [back_star p env hs]
  exact h.bind k fun vs F₁ s₁ S₁ r k₁ => wp_from S₁ (newTuple_ok k₁.rm r hl)
def notSlice : PySem.Expr → Bool
  | .Slice .. => false
  | _ => true
theorem subscripted_plain {slice : PySem.Expr} (h : notSlice slice = true) (o i : Value) : subscripted slice false o i = operate [o, i] (getItem o i) := by
  cases slice <;> first | rfl | cases h
theorem ev_idx {T id : String} (hl : typeLookup (.type T) "__getitem__" = pure (some (.builtin id))) (h1 : Ev G K ρ σ l x) (h2 : Ev G K ρ σ r (.int i)) (hn : notSlice r = true)
    (h : ∀ A env F s E v t, EOk G K A env ρ σ F s → Rel F x v → s.TypeIs v T ∧ wpAny G.M A (getItem v (.int i t)) (PV F s z) E s) : Ev G K ρ σ (.Subscript l r p) z :=
  fun A env F s E k => Subscript_ (h1.bind k fun v F₁ s₁ S₁ r₁ k₁ => h2.bind k₁ fun w F₂ s₂ S₂ r₂ k₂ => r₂.elim fun t e => by
    subst e
    have hw := h A env F₂ s₂ E v t k₂ (r₁.mono S₂.up)
    exact tail_any hw.1 hl (wp_from (S₁.trans S₂) hw.2) (subscripted_plain hn _ _))
theorem ev_idxs (h1 : Ev G K ρ σ l (.str a)) (h2 : Ev G K ρ σ r (.int i)) (h0 : 0 ≤ i) (hi : i < a.length) (hz : a.length < 2 ^ 62) (hn : notSlice r = true := by rfl) : Ev G K ρ σ (.Subscript l r p) (.str [a.getD i.toNat 0]) := by
  refine ev_idx F.slot_str_getitem.lookup h1 h2 hn ?_
  rintro A env F s E _ t k ⟨u, rfl⟩
  refine ⟨typeIs_str s _ u, P.getItem_str (c := a.getD i.toNat 0) ?_ ?_ (pv_tok k.rm _ ⟨_, rfl⟩)⟩
  · rw [decide_eq_false (by (exact a32 h0)), decide_eq_false (by (exact a33 hi hz))]; rfl
  · rw [length_str, seqIndex_of h0 hi]
    have : i.toNat < a.length := by (exact a34 h0 hi)
    simp [this]
theorem ev_idxl (h1 : Ev G K ρ σ l (.lst xs)) (h2 : Ev G K ρ σ r (.int i)) (h0 : 0 ≤ i) (hi : i < 2 ^ 62) (hz : xs[i.toNat]? = some z) (hn : notSlice r = true := by rfl) : Ev G K ρ σ (.Subscript l r p) z :=
  ev_idx slot_list_getitem.lookup h1 h2 hn fun A env F s E v t k rv => by
    obtain ⟨b, vs, rfl, hl, _, rl⟩ := lst_list k.rm rv
    exact ⟨hl.typeIs, (rl.get hz).elim fun v' q => wpAny_getItem_list hl h0 (Int.lt_trans hi (by decide)) (by simpa using q.1) (pv_same k q.2)⟩
theorem last_get {vs : List Value} (hz : xs.getLast? = some z) {F : Fz} (rl : RelL F xs vs) : 1 ≤ vs.length ∧ ∃ v, vs[((-1 : Int) + vs.length).toNat]? = some v ∧ Rel F z v := by
  rw [List.getLast?_eq_getElem?] at hz
  have h1 := (List.getElem?_eq_some_iff.mp hz).1
  have e := rl.length
  refine ⟨by (exact a11 h1 e), ?_⟩
  rw [show ((-1 : Int) + vs.length).toNat = xs.length - 1 by (exact a12 h1 e)]
  exact rl.get hz
theorem ev_idxl_last (h1 : Ev G K ρ σ l (.lst xs)) (h2 : Ev G K ρ σ r (.int (-1))) (hl : xs.length < 2 ^ 62) (hz : xs.getLast? = some z) (hn : notSlice r = true := by rfl) : Ev G K ρ σ (.Subscript l r p) z :=
  ev_idx slot_list_getitem.lookup h1 h2 hn fun A env F s E v t k rv => by
    obtain ⟨b, vs, rfl, hl, hn, rl⟩ := lst_list k.rm rv
    obtain ⟨h1, v', hv, r'⟩ := last_get hz rl
    exact ⟨hl.typeIs, wpAny_getItem_list_neg hl (by decide) (by rw [List.size_toArray]; (exact a15 h1 hn)) (by decide) (by rw [List.size_toArray]; simpa using hv) (pv_same k r')⟩
theorem own_list {A : Around} {env : Env} {F : Fz} {s : Shared} {b : Addr} (k : EOk G K A env ρ σ F s) (h : σ b = some (.lst xs)) : ∃ vs, s.heap.IsList b (List.toArray vs) ∧ RelL F xs vs :=
  (k.lst b xs h).2.imp fun _ q => q.elim fun n q => ⟨⟨_, q.1, rfl, n, rfl⟩, q.2⟩
theorem ev_idxo_last {b : Addr} (h1 : Ev G K ρ σ l (.ref b)) (h2 : Ev G K ρ σ r (.int (-1))) (hb : σ b = some (.lst xs)) (hz : xs.getLast? = some z) (hn : notSlice r = true := by rfl) : Ev G K ρ σ (.Subscript l r p) z :=
  ev_idx slot_list_getitem.lookup h1 h2 hn fun A env F s E v t k rv => by
    cases show v = .ref b from rv
    obtain ⟨vs, hl, rl⟩ := own_list k hb
    obtain ⟨h1, v', hv, r'⟩ := last_get hz rl
    exact ⟨hl.typeIs, wpAny_getItem_list_neg hl (by decide) (by rw [List.size_toArray]; (exact a16 h1)) (by decide) (by rw [List.size_toArray]; simpa using hv) (pv_same k r')⟩
theorem ev_idxc (h1 : Ev G K ρ σ l (.scr xs)) (h2 : Ev G K ρ σ r (.int i)) (h0 : 0 ≤ i) (hi : i < 2 ^ 62) (hz : xs[i.toNat]? = some z) (hn : notSlice r = true := by rfl) : Ev G K ρ σ (.Subscript l r p) z :=
  ev_idx slot_list_getitem.lookup h1 h2 hn fun A env F s E v t k rv => by
    obtain ⟨b, vs, rfl, ⟨o, ho, q⟩, rl⟩ := rv
    have hl : s.heap.IsList b vs.toArray := ⟨o, k.rm.sub _ _ ho, q⟩
    exact ⟨hl.typeIs, (rl.get hz).elim fun v' q => wpAny_getItem_list hl h0 (Int.lt_trans hi (by decide)) (by simpa using q.1) (pv_same k q.2)⟩
theorem ev_idxt (h1 : Ev G K ρ σ l (.tup xs)) (h2 : Ev G K ρ σ r (.int i)) (h0 : 0 ≤ i) (hi : i < 2 ^ 62) (hz : xs[i.toNat]? = some z) (hn : notSlice r = true := by rfl) : Ev G K ρ σ (.Subscript l r p) z :=
  ev_idx slot_tuple_getitem.lookup h1 h2 hn fun A env F s E v t k rv => by
    obtain ⟨b, vs, rfl, ⟨n, ho⟩, rl⟩ := rv
    have ht : IsTup s.heap b vs.toArray := ⟨_, k.rm.sub _ _ ho, rfl, n, rfl⟩
    have h1 := (List.getElem?_eq_some_iff.mp hz).1
    exact ⟨ht.typeIs, (rl.get hz).elim fun v' q => getItem_tuple ht (by (exact a18 h0)) (by (exact a19 hi)) (by rw [List.size_toArray, rl.length]; exact seqIndex_of h0 (by (exact a22 h0 h1))) (by simpa using q.1) (pv_same k q.2)⟩
def clampI (o : Option Int) (dflt n : Nat) : Nat :=
  match o with
  | none => dflt
  | some i => if i < 0 then (i + n).toNat else min i.toNat n
def slice {α : Type} (xs : List α) (lo hi : Option Int) : List α := (xs.take (clampI hi xs.length xs.length)).drop (clampI lo 0 xs.length)
theorem clampI_le (o : Option Int) (d n : Nat) (hd : d ≤ n) : clampI o d n ≤ n := by
  unfold clampI
  split
  · exact hd
  · split <;> (first | exact a13 ‹_› | exact a17 )
theorem strIdx (lo hi : Option Int) (n : Nat) : Builtin.Str.strSliceIndices lo hi 1 n = (List.range (clampI hi n n - clampI lo 0 n)).map (clampI lo 0 n + ·) := by
  rw [← sliceRange_one]
  unfold Builtin.Str.strSliceIndices
  simp only [show (1 : Int) > 0 by decide, if_true]
  congr 1
  · cases lo with
    | none => rfl
    | some i => simp only [clampI]; split <;> (first | exact a21 ‹_› | exact a24 ‹_›)
  · cases hi with
    | none => rfl
    | some i => simp only [clampI]; split <;> (first | exact a21 ‹_› | exact a24 ‹_›)
theorem slice_full {α : Type} (xs : List α) (lo hi : Option Int) (h : clampI hi xs.length xs.length - clampI lo 0 xs.length = xs.length) : slice xs lo hi = xs := by
  have h1 := clampI_le hi xs.length xs.length (Nat.le_refl _)
  have h2 := clampI_le lo 0 xs.length (Nat.zero_le _)
  unfold slice
  by_cases h0 : xs.length = 0
  · rw [List.eq_nil_of_length_eq_zero h0]; simp
  · rw [show clampI lo 0 xs.length = 0 by (exact a20 h h1 h0), show clampI hi xs.length xs.length = xs.length by (exact a23 h h1)]; simp
theorem part_val {vl : Value} {o : Option Int} (p : IsPart vl o) : ∃ l : Option (Int × Tok), vl = partValue l ∧ l.map (·.1) = o := by
  cases p with
  | none => exact ⟨none, rfl, rfl⟩
  | int i t => exact ⟨some (i, t), rfl, rfl⟩
theorem slice_str_ok {A : Around} {F : Fz} {s : Shared} {E : Value → Shared → Prop} {t : Tok} {sl : Addr} {vl vu : Value} {lo hi : Option Int} (R : Rm G A F s) (pl : IsPart vl lo) (pu : IsPart vu hi)
    (hs : ∃ o, s.heap.get? sl = some o ∧ o.cls = .type "slice" ∧ o.data = .fields #[vl, vu, .none]) (hl : a.length ≤ sizeLine) : wpAny G.M A (getItem (.str ⟨a.toArray⟩ t) (.ref sl)) (PV F s (.str (slice a lo hi))) E s := by
  obtain ⟨l, rfl, el⟩ := part_val pl
  obtain ⟨u, rfl, eu⟩ := part_val pu
  refine wpAny_getItem_str_slice (l := l) (u := u) (st := none) hs rfl ?_
  have hp : slicePicked ⟨a.toArray⟩ l u none = (List.range (clampI hi a.length a.length - clampI lo 0 a.length)).map (clampI lo 0 a.length + ·) := by
    unfold slicePicked
    rw [el, eu, length_str]
    exact strIdx lo hi a.length
  unfold sliceMade
  rw [hp, length_str]
  split
  · rename_i hc
    rw [slice_full a lo hi (by simpa using hc)]
    exact pv_tok R s.toks ⟨_, rfl⟩
  · have e : ((List.range (clampI hi a.length a.length - clampI lo 0 a.length)).map (clampI lo 0 a.length + ·)).filterMap (fun x => (⟨a.toArray⟩ : Str).cps[x]?) = slice a lo hi := by
      have := pick_run a.toArray (clampI lo 0 a.length) (clampI hi a.length a.length - clampI lo 0 a.length)
      unfold slice
      rw [List.drop_take]
      simpa using this
    rw [e]
    refine made_str R (Nat.le_trans ?_ hl)
    unfold slice
    rw [List.length_drop, List.length_take]
    exact Nat.le_trans (Nat.sub_le _ _) (Nat.min_le_right _ _)
def EvO (G : Gl) (K : Sx) (ρ : List V) (σ : Ow) (e : Option PySem.Expr) (o : Option Int) : Prop :=
  ∀ A env F s E R, EOk G K A env ρ σ F s → (∀ v F' s', St N0 F s F' s' → IsPart v o → EOk G K A env ρ σ F' s' → R v s') → wpAny G.M A (evalPart e env) R E s
theorem evo_none : EvO G K ρ σ none none := fun A env F s E R k h => wpAny_evalPart_none (h _ F s (.refl k.rm.sub) .none k)
theorem evo_some (h1 : Ev G K ρ σ e (.int i)) : EvO G K ρ σ (some e) (some i) := fun A env F s E R k h =>
  wpAny_evalPart_some (h1.bind k fun v F₁ s₁ S₁ r₁ k₁ => r₁.elim fun t e => h v F₁ s₁ S₁ (e ▸ .int i t) k₁)
theorem ev_slc {lo hi : Option PySem.Expr} {m n : Option Int} (h1 : Ev G K ρ σ l (.str a)) (h2 : EvO G K ρ σ lo m) (h3 : EvO G K ρ σ hi n) (hl : a.length ≤ sizeLine) : Ev G K ρ σ (.Subscript l (.Slice lo hi none q) p) (.str (slice a m n)) :=
  fun A env F₀ s E k => Subscript_ (h1.bind k fun v F₁ s₁ S₁ r₁ k₁ => wpAny_Slice (h2 A env F₁ s₁ E _ k₁ fun vl F₂ s₂ S₂ pl k₂ => h3 A env F₂ s₂ E _ k₂ fun vu F₃ s₃ S₃ pu k₃ => wpAny_evalPart_none (r₁.elim fun t e => by
    subst e
    have S₄ : St N0 F₃ s₃ F₃ { s₃ with heap := s₃.heap.push { cls := .type "slice", data := .fields #[vl, vu, .none] } } := St.grow k₃.rm.sub fun _ _ e => Heap.get?_push_of_some _ e
    refine tail_any (ops := [.ref s₃.heap.objs.size, .str ⟨a.toArray⟩ t]) (typeIs_str _ _ t) F.slot_str_getitem.lookup ?_ rfl
    exact wp_from (((S₁.trans S₂).trans S₃).trans S₄) (slice_str_ok (k₃.rm.step S₄) pl pu ⟨_, Heap.get?_push_size _ rfl, rfl, rfl⟩ hl))))
end
end Mine

set_option autoImplicit false
set_option linter.all false
set_option genSizeOf false
set_option genInjectivity false
set_option maxRecDepth 100000
namespace Mine
open PySem PyProof.Rows
section
variable {M : Model} {A : Around} {E : Value → Shared → Prop} {s : Shared}
theorem evalArgs_list {f : Value} {args : List (Bool × Sem Value)} {Q : Args → Shared → Prop} (hp : args.all (fun x => !x.1) = true) (h : wpAny M A (spliced args) (fun vs s' => Q ⟨vs, []⟩ s') E s) :
    wpAny M A (evalArgs f true args []) Q E s := by
  cases args with
  | nil =>
    unfold evalArgs
    show wpAny M A (spliced [] >>= _) Q E s
    exact wpAny_bind (wpAny_mono h (fun vs s' h' => wpAny_bind (wpAny_pure (wpAny_holding (wpAny_bind (wpAny_pure (wpAny_bind (wpAny_pure (wpAny_pure h')))))))) fun _ _ x => x)
  | cons x rest =>
    obtain ⟨b, t⟩ := x
    cases b with
    | true => exact nomatch hp
    | false => exact Calls.evalArgs_plain h
end
theorem all_false (es : List PySem.Expr) (env : Env) : (es.map fun e => (false, eval e env)).all (fun x => !x.1) = true := by simp
theorem any_false (es : List PySem.Expr) (env : Env) : (es.map fun e => (false, eval e env)).any (·.1) = false := by simp
section
variable {G : Gl} {K : Sx} {ρ : List V} {σ : Ow} {e l r : PySem.Expr} {es : List PySem.Expr} {x y z : V} {p q : Pos} {b c : Bool} {i j : Int} {a a' : List Nat} {xs ys : List V} {A : Around} {env : Env} {F : Fz} {s : Shared} {E : Value → Shared → Prop} {f : Str}
theorem ev_cb (n : Nat) {id : String} (hb : blts[n]? = some (f, .builtin id)) (hg : globOK K f = true) (hs : es.all notStar = true) (ha : EvL G K ρ σ es xs)
    (h : ∀ A env F s E vs, EOk G K A env ρ σ F s → RelL F xs vs → wpAny G.M A (call (.builtin id) vs) (PV F s z) E s) : Ev G K ρ σ (.Call (.Name f q) es [] p) z := fun A env F s E k => by
  refine wpAny_Call_NameR (name_global k (.inr (k.rm.go.blt n f _ hb)) hg ?_)
  rw [back_star p env hs]
  exact Calls.callWith_builtin (any_false es env) (evalArgs_list (all_false es env) (ha.bind k fun vs F₁ s₁ S₁ r₁ k₁ => wp_from S₁ (h A env F₁ s₁ E vs k₁ r₁)))
theorem ev_ct (n : Nat) {T : String} (hb : blts[n]? = some (f, .type T)) (hg : globOK K f = true) (hs : es.all notStar = true) (ha : EvL G K ρ σ es xs)
    (h : ∀ A env F s E vs, EOk G K A env ρ σ F s → RelL F xs vs → wpAny G.M A (call (.type T) vs) (PV F s z) E s) : Ev G K ρ σ (.Call (.Name f q) es [] p) z := fun A env F s E k => by
  refine wpAny_Call_NameR (name_global k (.inr (k.rm.go.blt n f _ hb)) hg ?_)
  rw [back_star p env hs]
  exact PyProof.Rows.callWith_type (any_false es env) (evalArgs_list (all_false es env) (ha.bind k fun vs F₁ s₁ S₁ r₁ k₁ => wp_from S₁ (h A env F₁ s₁ E vs k₁ r₁)))
theorem rel1 {vs : List Value} (r : RelL F [x] vs) : ∃ v, vs = [v] ∧ Rel F x v := r.imp fun v q => q.elim fun ws q => ⟨q.1.trans (congrArg _ q.2.2), q.2.1⟩
theorem ev_len (h : ∀ A env F s E v, EOk G K A env ρ σ F s → Rel F x v → wpAny G.M A (call (.builtin "len") [v]) (PV F s z) E s) (h1 : Ev G K ρ σ e x) (hs : notStar e = true) (hg : globOK K "len" = true) : Ev G K ρ σ (.Call (.Name "len" q) [e] [] p) z :=
  ev_cb 0 rfl hg (by rw [List.all_cons, hs]; rfl) (evl_cons h1 evl_nil) fun A env F s E vs k r => (rel1 r).elim fun v q => q.1 ▸ h A env F s E v k q.2
theorem ev_lens (h1 : Ev G K ρ σ e (.str a)) (hl : a.length < 2 ^ 62) (hs : notStar e = true := by rfl) (hg : globOK K "len" = true := by decide +kernel) : Ev G K ρ σ (.Call (.Name "len" q) [e] [] p) (.int a.length) :=
  ev_len (by rintro A env F s E _ k ⟨t, rfl⟩; exact P.len_str (by rw [length_str]; (exact a6 hl)) (pv_tok k.rm _ ⟨_, rfl⟩)) h1 hs hg
theorem len_of {b : Addr} {vs : List Value} (k : EOk G K A env ρ σ F s) (hl : s.heap.IsList b vs.toArray) (hn : vs.length = xs.length) (h : xs.length < 2 ^ 62) : wpAny G.M A (call (.builtin "len") [.ref b]) (PV F s (.int xs.length)) E s :=
  len_list hl (by rw [List.size_toArray]; (exact a3 hn h)) (by rw [List.size_toArray, hn]; exact pv_tok k.rm _ ⟨_, rfl⟩)
theorem ev_lenl (h1 : Ev G K ρ σ e (.lst xs)) (hl : xs.length < 2 ^ 62) (hs : notStar e = true := by rfl) (hg : globOK K "len" = true := by decide +kernel) : Ev G K ρ σ (.Call (.Name "len" q) [e] [] p) (.int xs.length) :=
  ev_len (fun A env F s E v k r => by obtain ⟨b, vs, rfl, h, hn, _⟩ := lst_list k.rm r; exact len_of k h hn hl) h1 hs hg
theorem ev_leno {b : Addr} (h1 : Ev G K ρ σ e (.ref b)) (hb : σ b = some (.lst xs)) (hl : xs.length < 2 ^ 62) (hs : notStar e = true := by rfl) (hg : globOK K "len" = true := by decide +kernel) : Ev G K ρ σ (.Call (.Name "len" q) [e] [] p) (.int xs.length) :=
  ev_len (fun A env F s E v k r => by cases show v = .ref b from r; obtain ⟨vs, h, hn⟩ := own_list k hb; exact len_of k h hn.length hl) h1 hs hg
theorem ev_lenc (h1 : Ev G K ρ σ e (.scr xs)) (hl : xs.length < 2 ^ 62) (hs : notStar e = true := by rfl) (hg : globOK K "len" = true := by decide +kernel) : Ev G K ρ σ (.Call (.Name "len" q) [e] [] p) (.int xs.length) :=
  ev_len (fun A env F s E v k r => by obtain ⟨b, vs, rfl, ⟨o, ho, t⟩, rl⟩ := r; exact len_of k ⟨o, k.rm.sub _ _ ho, t⟩ rl.length hl) h1 hs hg
theorem ev_lent (h1 : Ev G K ρ σ e (.tup xs)) (hl : xs.length < 2 ^ 62) (hs : notStar e = true := by rfl) (hg : globOK K "len" = true := by decide +kernel) : Ev G K ρ σ (.Call (.Name "len" q) [e] [] p) (.int xs.length) :=
  ev_len (fun A env F s E v k r => by
    obtain ⟨b, vs, rfl, ⟨n, ho⟩, rl⟩ := r
    have ht : IsTup s.heap b vs.toArray := ⟨_, k.rm.sub _ _ ho, rfl, n, rfl⟩
    exact len_tuple ht (by rw [List.size_toArray, rl.length]; (exact a7 hl)) (by rw [List.size_toArray, rl.length]; exact pv_tok k.rm _ ⟨_, rfl⟩)) h1 hs hg
theorem ev_range1 (h1 : Ev G K ρ σ e (.int i)) (h2 : -(2 ^ 62) ≤ i) (h3 : i < 2 ^ 62) (hs : notStar e = true := by rfl) (hg : globOK K "range" = true := by decide +kernel) : Ev G K ρ σ (.Call (.Name "range" q) [e] [] p) (.rng 0 i) :=
  ev_ct 2 rfl hg (by rw [List.all_cons, hs]; rfl) (evl_cons h1 evl_nil) (by
    rintro A env F s E _ k ⟨_, _, rfl, ⟨t, rfl⟩, rfl⟩
    exact call_range_1 (pv_push k.rm _ _ ⟨⟨by decide, by decide, h2, h3⟩, _, _, _, _, rfl, Fz.add_self⟩ rfl))
theorem ev_range2 (h0 : Ev G K ρ σ l (.int j)) (h1 : Ev G K ρ σ e (.int i)) (h4 : -(2 ^ 62) ≤ j) (h5 : j < 2 ^ 62) (h2 : -(2 ^ 62) ≤ i) (h3 : i < 2 ^ 62) (hs : notStar l = true := by rfl) (hs' : notStar e = true := by rfl) (hg : globOK K "range" = true := by decide +kernel) : Ev G K ρ σ (.Call (.Name "range" q) [l, e] [] p) (.rng j i) :=
  ev_ct 2 rfl hg (by rw [List.all_cons, hs, List.all_cons, hs']; rfl) (evl_cons h0 (evl_cons h1 evl_nil)) (by
    rintro A env F s E _ k ⟨_, _, rfl, ⟨t, rfl⟩, _, _, rfl, ⟨u, rfl⟩, rfl⟩
    exact call_range_2 (pv_push k.rm _ _ ⟨⟨h4, h5, h2, h3⟩, _, _, _, _, rfl, Fz.add_self⟩ rfl))
theorem tuple_of {b : Addr} {vs : List Value} (k : EOk G K A env ρ σ F s) (hu : s.heap.IsList b vs.toArray) (rl : RelL F xs vs) (h : xs.length ≤ sizeLine) : wpAny G.M A (call (.type "tuple") [.ref b]) (PV F s (.tup xs)) E s := by
  refine call_tuple_list hu (fun h' hk => ?_) (by rw [List.size_toArray, rl.length]; exact h)
  have S : St N0 F s F { s with heap := h', toks := s.toks } := .grow k.rm.sub hk
  exact PV.from S (pv_push (k.rm.step S) (tobj vs 0) s.toks ⟨_, vs, rfl, ⟨0, Fz.add_self⟩, rl.mono (add_up (k.rm.step S))⟩ rfl)
theorem ev_tuplo {b : Addr} (h1 : Ev G K ρ σ e (.ref b)) (hb : σ b = some (.lst xs)) (hl : xs.length ≤ sizeLine) (hs : notStar e = true := by rfl) (hg : globOK K "tuple" = true := by decide +kernel) : Ev G K ρ σ (.Call (.Name "tuple" q) [e] [] p) (.tup xs) :=
  ev_ct 5 rfl hg (by rw [List.all_cons, hs]; rfl) (evl_cons h1 evl_nil) (fun A env F s E vs k r => by
    obtain ⟨v, rfl, r₀⟩ := rel1 r
    cases (show v = .ref b from r₀)
    obtain ⟨vs, h, hn⟩ := own_list k hb; exact tuple_of k h hn hl)
theorem ev_int1 (h1 : Ev G K ρ σ e (.bool b)) (hs : notStar e = true := by rfl) (hg : globOK K "int" = true := by decide +kernel) : Ev G K ρ σ (.Call (.Name "int" q) [e] [] p) (.int (if b then 1 else 0)) :=
  ev_ct 4 rfl hg (by rw [List.all_cons, hs]; rfl) (evl_cons h1 evl_nil) (fun A env F s E vs k r => by
    obtain ⟨v, rfl, r₀⟩ := rel1 r
    cases (show v = .bool b from r₀)
    exact call_int_bool (pv_tok k.rm _ ⟨_, rfl⟩))
def Inst (G : Gl) (T : String) (x : V) (b : Bool) : Prop := ∀ A F s E v, Rm G A F s → Rel F x v → wpAny G.M A (call (.builtin "isinstance") [v, .type T]) (PV F s (.bool b)) E s
theorem ev_inst (n : Nat) {T : String} {t : Str} {pt : Pos} (h : Inst G T x b) (h1 : Ev G K ρ σ e x) (hb : blts[n]? = some (t, .type T) := by rfl) (hs : notStar e = true := by rfl) (hg : globOK K "isinstance" = true := by decide +kernel) (ht : globOK K t = true := by decide +kernel) : Ev G K ρ σ (.Call (.Name "isinstance" q) [e, .Name t pt] [] p) (.bool b) :=
  ev_cb 1 rfl hg (by rw [List.all_cons, hs]; rfl) (evl_cons h1 (evl_cons (ev_blt n hb ht) evl_nil)) (by
    rintro A env F s E _ k ⟨v, _, rfl, r, _, _, rfl, rfl, rfl⟩
    exact h A F s E v k.rm r)
theorem is_none_str : Inst G "str" (.none) false := by rintro A F s E _ R rfl; exact IsiPair.NoneType_str (pv_tok R _ rfl)
theorem is_int_str : Inst G "str" (.int i) false := by rintro A F s E _ R ⟨_, rfl⟩; exact IsiPair.int_str (pv_tok R _ rfl)
theorem is_str_str : Inst G "str" (.str a) true := by rintro A F s E _ R ⟨_, rfl⟩; exact IsiPair.str_str (pv_tok R s.toks rfl)
theorem is_tup_str : Inst G "str" (.tup xs) false := by rintro A F s E _ R ⟨_, _, rfl, ⟨_, h⟩, _⟩; exact IsiPair.tuple_str (R.sub _ _ h) rfl (pv_tok R _ rfl)
theorem is_lst_str : Inst G "str" (.lst xs) false := by rintro A F s E _ R ⟨_, _, rfl, ⟨_, h⟩, _⟩; exact IsiPair.list_str (R.sub _ _ h) rfl (pv_tok R _ rfl)
theorem is_int_int : Inst G "int" (.int i) true := by rintro A F s E _ R ⟨_, rfl⟩; exact IsiPair.int_int (pv_tok R s.toks rfl)
theorem is_tup_int : Inst G "int" (.tup xs) false := by rintro A F s E _ R ⟨_, _, rfl, ⟨_, h⟩, _⟩; exact IsiPair.tuple_int (R.sub _ _ h) rfl (pv_tok R _ rfl)
theorem is_lst_int : Inst G "int" (.lst xs) false := by rintro A F s E _ R ⟨_, _, rfl, ⟨_, h⟩, _⟩; exact IsiPair.list_int (R.sub _ _ h) rfl (pv_tok R _ rfl)
theorem is_int_bool : Inst G "bool" (.int i) false := by rintro A F s E _ R ⟨_, rfl⟩; exact IsiPair.int_bool (pv_tok R _ rfl)
theorem is_tup_tuple : Inst G "tuple" (.tup xs) true := by rintro A F s E _ R ⟨_, _, rfl, ⟨_, h⟩, _⟩; exact IsiPair.tuple_tuple (R.sub _ _ h) rfl (pv_tok R s.toks rfl)
theorem is_lst_tuple : Inst G "tuple" (.lst xs) false := by rintro A F s E _ R ⟨_, _, rfl, ⟨_, h⟩, _⟩; exact IsiPair.list_tuple (R.sub _ _ h) rfl (pv_tok R _ rfl)
theorem is_tup_list : Inst G "list" (.tup xs) false := by rintro A F s E _ R ⟨_, _, rfl, ⟨_, h⟩, _⟩; exact IsiPair.tuple_list (R.sub _ _ h) rfl (pv_tok R _ rfl)
theorem is_lst_list : Inst G "list" (.lst xs) true := by rintro A F s E _ R ⟨_, _, rfl, ⟨_, h⟩, _⟩; exact IsiPair.list_list (R.sub _ _ h) rfl (pv_tok R s.toks rfl)
def fnA (mg : Str → Option Value) (f : Str) : Addr := match mg f with | some (.ref a) => a | _ => 0
abbrev Gl.fn (G : Gl) (f : Str) : Addr := fnA G.mg f
structure Pure (G : Gl) (f : Str) (xs : List V) (z : V) : Prop where
  is : ∃ o fd, G.mg f = some (.ref (G.fn f)) ∧ G.B.get? (G.fn f) = some o ∧ o.data = .func fd
  run : ∀ A F s E vs, Rm G A F s → RelL F xs vs → wpAny G.M A (call (.ref (G.fn f)) vs) (PV F s z) E s
theorem ev_call (h : Pure G f xs z) (ha : EvL G K ρ σ es xs) (hs : es.all notStar = true := by rfl) (hg : globOK K f = true := by decide +kernel) : Ev G K ρ σ (.Call (.Name f q) es [] p) z := fun A env F s E k => by
  obtain ⟨o, fd, hf, ho, hfd⟩ := h.is
  refine wpAny_Call_NameR (name_global k (.inl hf) hg ?_)
  rw [back_star p env hs]
  exact Calls.callWith_function (evalArgs_list (all_false es env) (ha.bind k fun vs F₁ s₁ S₁ r₁ k₁ => ⟨⟨k₁.rm.in _ _ ho, hfd⟩, wp_from S₁ (h.run A F₁ s₁ E vs k₁.rm r₁)⟩))
theorem starts_eq (a b : List Nat) : Txt.startswith ⟨a.toArray⟩ ⟨b.toArray⟩ = b.isPrefixOf a := by
  unfold Txt.startswith
  rw [length_str, length_str, StrLaws.subAt_eq, length_str]
  simp only [Nat.zero_add, List.drop_zero]
  rw [Bool.eq_iff_iff]
  simp only [Bool.and_eq_true, decide_eq_true_eq, beq_iff_eq, List.isPrefixOf_iff_prefix]
  constructor
  · rintro ⟨_, h⟩; exact ⟨a.drop b.length, by have := List.take_append_drop b.length a; rw [h] at this; exact this⟩
  · rintro ⟨c, rfl⟩; simp
theorem meth_gen {n : Str} {id : String} {ap : Pos} {Q : Value → Shared → Prop} (h1 : Ev G K ρ σ e x) (hn : ∀ n env t, attributeBase e n env t = t) (hl : (ap.endLine == p.line) = true) (hs : es.all notStar = true) (h8 : es.length < 8) (k : EOk G K A env ρ σ F s)
    (hm : ∀ F s v pl Q, EOk G K A env ρ σ F s → Rel F x v → Q (.builtin id, [v]) s → wpAny G.M A (getMethod v n pl) Q E s)
    (h : ∀ v F₁ s₁, St N0 F s F₁ s₁ → EOk G K A env ρ σ F₁ s₁ → Rel F₁ x v → wpAny G.M A (spliced (es.map fun e => (false, eval e env))) (fun vs s₂ => wpAny G.M A (call (.builtin id) (v :: vs)) Q E s₂) E s₁) : wpAny G.M A (eval (.Call (.Attribute e n ap) es [] p) env) Q E s := by
  rw [arm_eval_Call]
  rw [hn]
  refine wpAny_bind (h1.bind k fun v F₁ s₁ S₁ r₁ k₁ => wpAny_bind (wpAny_standAt ?_))
  rw [back_star p env hs]
  have hform : methodCallForm (es.length + ([] : List Keyword).length) (es.map fun e => (false, eval e env)) (backToKw p (keywordEach [] env)) = true := by
    show ((es.map fun e => (false, eval e env)).all (fun x => !x.1) && true && decide (es.length + 0 + 0 < 30)) = true
    rw [all_false, decide_eq_true (by (exact a8 h8))]; rfl
  have hpos : methodCallPos true e env ap p = pure p := by unfold methodCallPos; simp [hl]
  unfold methodCall
  rw [hform]
  refine wpAny_bind (wpAny_holding (hm F₁ s₁ v _ _ k₁ r₁ (wpAny_bind (wpAny_of_eq hpos ?_))))
  exact Calls.callWith_builtin (any_false es env) (evalArgs_list (all_false es env) (h v F₁ s₁ S₁ k₁ r₁))
theorem meth_ok {n : Str} {id : String} {ap : Pos} {Q : Value → Shared → Prop} (h1 : Ev G K ρ σ e x) (hn : ∀ n env t, attributeBase e n env t = t) (hl : (ap.endLine == p.line) = true) (hs : es.all notStar = true) (h8 : es.length < 8) (ha : EvL G K ρ σ es xs) (k : EOk G K A env ρ σ F s)
    (hm : ∀ F s v pl Q, EOk G K A env ρ σ F s → Rel F x v → Q (.builtin id, [v]) s → wpAny G.M A (getMethod v n pl) Q E s)
    (h : ∀ v vs F₁ s₁, St N0 F s F₁ s₁ → EOk G K A env ρ σ F₁ s₁ → Rel F₁ x v → RelL F₁ xs vs → wpAny G.M A (call (.builtin id) (v :: vs)) Q E s₁) : wpAny G.M A (eval (.Call (.Attribute e n ap) es [] p) env) Q E s :=
  meth_gen h1 hn hl hs h8 k hm fun v F₁ s₁ S₁ k₁ r₁ => ha.bind k₁ fun vs F₂ s₂ S₂ r₂ k₂ => h v vs F₂ s₂ (S₁.trans S₂) k₂ (r₁.mono S₂.up) r₂
theorem ev_starts {ap : Pos} (h1 : Ev G K ρ σ e (.str a)) (h2 : Ev G K ρ σ l (.str a')) (hn : ∀ n env t, attributeBase e n env t = t := by intros; rfl) (hl : (ap.endLine == p.line) = true := by rfl) (hs : notStar l = true := by rfl) : Ev G K ρ σ (.Call (.Attribute e "startswith" ap) [l] [] p) (.bool (a'.isPrefixOf a)) := fun A env F s E k =>
  meth_ok (id := "str.startswith") h1 hn hl (by rw [List.all_cons, hs]; rfl) (Nat.lt_of_sub_eq_succ rfl) (evl_cons h2 evl_nil) k (by rintro F s _ pl Q k ⟨t, rfl⟩ h; exact GM.startswith h)
    (by rintro _ _ F₁ s₁ S₁ k₁ ⟨t, rfl⟩ ⟨_, _, rfl, ⟨u, rfl⟩, rfl⟩; exact SC.startswith (by rw [starts_eq]; exact ⟨F₁, S₁, rfl⟩))
end
end Mine

set_option autoImplicit false
set_option linter.all false
set_option genSizeOf false
set_option genInjectivity false
set_option maxRecDepth 100000
namespace Mine
open PySem PySem.W PyProof.Rows
def RowV (r : Row) : V := .tup [.str r.1, .int r.2]
theorem rel_row {F : Fz} {v : Value} {r : Row} (x : Rel F (RowV r) v) : ∃ a t u n, v = .ref a ∧ F a = some (tobj [.str ⟨r.1.toArray⟩ t, .int r.2 u] n) := by
  obtain ⟨a, _, rfl, ⟨n, h⟩, _, _, rfl, ⟨t, rfl⟩, _, _, rfl, ⟨u, rfl⟩, rfl⟩ := x
  exact ⟨a, t, u, n, rfl, h⟩
theorem row_inj {F : Fz} {v : Value} {r r' : Row} (x : Rel F (RowV r) v) (y : Rel F (RowV r') v) : r = r' := by
  obtain ⟨a, t, u, n, rfl, ht⟩ := rel_row x
  obtain ⟨a', t', u', n', e, ht'⟩ := rel_row y
  cases e
  have e1 := Obj.mk.inj (Option.some.inj (ht.symm.trans ht'))
  have e2 := congrArg Array.toList (Data.seq.inj e1.2.2.1).1
  have e3 := List.cons.inj e2
  have e4 := Value.str.inj e3.1
  have e5 := Value.int.inj (List.cons.inj e3.2).1
  exact Prod.ext (congrArg Array.toList (Str.mk.inj e4.1)) e5.1
section
variable {prog : Program} {w : World} {A : Around} {E : Value → Shared → Prop} {s : Shared} {F : Fz}
end
end Mine

set_option autoImplicit false
set_option linter.all false
set_option genSizeOf false
set_option genInjectivity false
set_option maxRecDepth 100000
namespace Mine
open PySem PyProof.Rows
def Own (env : Env) (b : Addr) : Prop := b = env.locals ∨ ∃ x, (x, b) ∈ env.cells
def Dm (env : Env) (σ : Ow) (b : Addr) : Prop := Own env b ∨ ∃ c, σ b = some c ∧ c.rw = true
structure FOk (G : Gl) (K : Sx) (A : Around) (env : Env) (ρ : List V) (σ : Ow) (F : Fz) (s : Shared) : Prop where
  e : EOk G K A env ρ σ F s
  top : ∃ outer, A.frames = some (env :: outer)
  apart : env.cells.Pairwise fun x y => x.2 ≠ y.2
  nodup : K.ns.Nodup
  own : ∀ x c, (x, c) ∈ env.cells → (∃ ov, s.heap.IsCell c ov) ∧ F c = none
  sep : ∀ a c, σ a = some c → ¬ Own env a ∧ (c.rw = true → NoFr A a)
structure Lk (env : Env) (σ : Ow) (F : Fz) (s : Shared) (σ' : Ow) (F' : Fz) (s' : Shared) : Prop where
  S : St (Dm env σ) F s F' s'
  d : ∀ b c, σ' b = some c → (∃ c', σ b = some c' ∧ (c.rw = true → c'.rw = true)) ∨ s.heap.get? b = none
inductive Fl where
  | next
  | ret (v : V)
def FlRel (F : Fz) : Flow → Fl → Prop
  | .next, .next => True
  | .ret v, .ret x => Rel F x v
  | _, _ => False
abbrev KS := Fl → List V → Ow → Prop
inductive PS (G : Gl) (K : Sx) (A : Around) (env : Env) (σ : Ow) (F : Fz) (s : Shared) (Q : KS) (f : Flow) (s' : Shared) : Prop
  | mk (fl : Fl) (ρ' : List V) (σ' : Ow) (F' : Fz) (hf : FlRel F' f fl) (k : FOk G K A env ρ' σ' F' s') (L : Lk env σ F s σ' F' s') (q : Q fl ρ' σ')
def WS (G : Gl) (K : Sx) (ss : List Stmt) (ρ : List V) (σ : Ow) (Q : KS) : Prop :=
  ∀ A env F s E, FOk G K A env ρ σ F s → wpAny G.M A (execs ss env) (PS G K A env σ F s Q) E s
def WS1 (G : Gl) (K : Sx) (st : Stmt) (ρ : List V) (σ : Ow) (Q : KS) : Prop :=
  ∀ A env F s E, FOk G K A env ρ σ F s → wpAny G.M A (exec st env) (PS G K A env σ F s Q) E s
def Kc (G : Gl) (K : Sx) (ss : List Stmt) (Q : KS) : KS := fun f ρ σ => match f with | .next => WS G K ss ρ σ Q | .ret x => Q (.ret x) ρ σ
section
variable {G : Gl} {K : Sx} {A : Around} {env : Env} {ρ ρ₁ : List V} {σ σ₁ σ₂ : Ow} {F F₁ F₂ : Fz} {s s₁ s₂ : Shared} {E : Value → Shared → Prop} {Q : KS} {e c : PySem.Expr} {ss : List Stmt} {st : Stmt} {x : V} {p q : Pos} {b : Bool}
theorem FOk.step (k : FOk G K A env ρ σ F s) (S : St N0 F s F₁ s₁) : FOk G K A env ρ σ F₁ s₁ :=
  ⟨k.e.step S, k.top, k.apart, k.nodup, fun x c hc => (k.own x c hc).elim fun h1 h2 => ⟨h1.imp fun _ h => h.imp fun _ h => ⟨S.keep _ _ h.1 id (fun _ _ e => nomatch h.2.symm.trans e), h.2⟩, h1.elim fun _ h => h.elim fun _ h => S.out h2 h.1⟩, k.sep⟩
theorem Lk.trans (x : Lk env σ F s σ₁ F₁ s₁) (y : Lk env σ₁ F₁ s₁ σ₂ F₂ s₂) : Lk env σ F s σ₂ F₂ s₂ :=
  ⟨⟨fun a o e => y.S.up a o (x.S.up a o e), y.S.sub, fun b o e d => (x.S.keepO b o e d).elim fun o' r => (y.S.keepO b o' r.1 fun q => q.elim (fun q => d (.inl q)) fun q => q.elim fun c q => (x.d b c q.1).elim (fun t => t.elim fun c' t => d (.inr ⟨c', t.1, t.2 q.2⟩)) fun q => (nomatch e.symm.trans q)).imp fun _ t => ⟨t.1, r.2.trans t.2⟩,
    fun b o e => (x.S.live b o e).elim fun o' e' => (y.S.live b o' e'.1).imp fun _ r => ⟨r.1, e'.2.trans r.2⟩, fun b o e => (y.S.new b o e).elim (x.S.new b o) fun q => .inr (x.S.dead q), by rw [y.S.rest, x.S.rest]⟩,
   fun b c q => (y.d b c q).elim (fun q => q.elim fun c₁ q => (x.d b c₁ q.1).imp (fun t => t.imp fun _ t => ⟨t.1, fun h => t.2 (q.2 h)⟩) id) fun q => .inr (x.S.dead q)⟩
theorem St.lk (S : St N0 F s F₁ s₁) : Lk env σ F s σ F₁ s₁ := ⟨S.any, fun _ xs q => .inl ⟨xs, q, id⟩⟩
theorem PS.from {f : Flow} {s' : Shared} (L : Lk env σ F s σ₁ F₁ s₁) (h : PS G K A env σ₁ F₁ s₁ Q f s') : PS G K A env σ F s Q f s' :=
  h.casesOn fun fl ρ' σ' F' hf k L' q => ⟨fl, ρ', σ', F', hf, k, L.trans L', q⟩
theorem ws_from {M : Model} {t : Sem Flow} (L : Lk env σ F s σ₁ F₁ s₁) (h : wpAny M A t (PS G K A env σ₁ F₁ s₁ Q) E s₁) : wpAny M A t (PS G K A env σ F s Q) E s₁ := wpAny_mono h (fun _ _ q => q.from L) fun _ _ e => e
theorem FOk.here (k : FOk G K A env ρ σ F s) (h : Q .next ρ σ) : PS G K A env σ F s Q .next s := ⟨.next, ρ, σ, F, trivial, k, (St.refl k.e.rm.sub).lk, h⟩
theorem St.change {D : Addr → Prop} {q : Addr} {h' : Heap} {t : Nat} (sub : ∀ a o, F a = some o → s.heap.get? a = some o) (hq : F q = none) (hD : D q ∨ s.heap.get? q = none) (hs : Heap.ExtBut q s.heap h') (hl : ∃ o', h'.get? q = some o' ∧ ∀ o, s.heap.get? q = some o → DK o o') : St D F s F { s with heap := h', toks := t } :=
  ⟨fun _ _ e => e, fun a o e => hs a o (by rintro rfl; exact nomatch hq.symm.trans e) (sub a o e), fun b o e d => ⟨o, hs b o (by rintro rfl; exact hD.elim d fun q => nomatch e.symm.trans q) e, .inl rfl⟩,
    fun b o e => (Classical.em (b = q)).elim (fun h => by subst h; exact hl.imp fun _ t => ⟨t.1, t.2 o e⟩) fun h => ⟨o, hs b o h e, .refl o⟩, fun _ _ e => .inl e, rfl⟩
theorem set_get {i j : Nat} {x w : V} (h : (ρ.set i x)[j]? = some w) : (j = i ∧ w = x) ∨ (j ≠ i ∧ ρ[j]? = some w) := by
  by_cases hj : j = i
  · subst hj
    rw [List.getElem?_set_self'] at h
    cases e : ρ[j]? with
    | none => rw [e] at h; cases h
    | some v => rw [e] at h; cases h; exact .inl ⟨rfl, rfl⟩
  · rw [List.getElem?_set_ne (fun e => hj e.symm)] at h; exact .inr ⟨hj, h⟩
theorem ns_inj {ns : List Str} {i j : Nat} {x : Str} (hn : ns.Nodup) (hi : ns[i]? = some x) (hj : ns[j]? = some x) : i = j := by
  obtain ⟨a, ha⟩ := List.getElem?_eq_some_iff.mp hi
  obtain ⟨b, hb⟩ := List.getElem?_eq_some_iff.mp hj
  have hp := List.pairwise_iff_getElem.mp hn
  rcases Nat.lt_trichotomy i j with h | h | h
  · exact absurd (ha.trans hb.symm) (hp i j a b h)
  · exact h
  · exact absurd (hb.trans ha.symm) (hp j i b a h)
theorem FOk.others {D : Addr → Prop} {h' : Heap} {t : Nat} {σ' : Ow} (k : FOk G K A env ρ σ F s) (hD : ∀ q, D q → F q = none ∧ ¬ Own env q ∧ NoFr A q) (up : ∀ b o, ¬ D b → s.heap.get? b = some o → h'.get? b = some o)
    (hσ : ∀ a c, σ' a = some c → F a = none ∧ ∃ o, h'.get? a = some o ∧ OcR F o c) (hsep : ∀ a c, σ' a = some c → ¬ Own env a ∧ (c.rw = true → NoFr A a)) : FOk G K A env ρ σ' F { s with heap := h', toks := t } :=
  ⟨⟨⟨k.e.rm.go, k.e.rm.base, fun a o e => up a o (fun h => nomatch (hD a h).1.symm.trans e) (k.e.rm.sub a o e), k.e.rm.depth, k.e.rm.units, k.e.rm.handled, k.e.rm.frs fun L hL hF t => ⟨hF, t.imp fun o t => t.imp fun _ t => t.imp fun _ t => ⟨up L o (fun h => hL (hD L h).2.2) t.1, t.2⟩⟩⟩, k.e.sc, k.e.kind, k.e.globals, k.e.builtins, hσ,
    ⟨k.e.loc.len, k.e.loc.out, k.e.loc.vars.imp fun m r => ⟨ns_keep r.1 fun o e => up _ o (fun h => (hD _ h).2.1 (.inl rfl)) e, fun i x v hx hv => ⟨(r.2 i x v hx hv).1, fun hk => ((r.2 i x v hx hv).2 hk).imp fun c u => u.imp fun ov u =>
      ⟨u.1, u.2.1.imp fun oc w => ⟨up _ _ (fun h => (hD _ h).2.1 (.inr ⟨x, mem_of_lookup u.1⟩)) w.1, w.2⟩, u.2.2⟩⟩⟩⟩⟩,
   k.top, k.apart, k.nodup, fun x c hc => (k.own x c hc).elim fun h1 h2 => ⟨h1.imp fun _ h => h.imp fun _ h => ⟨up _ _ (fun h => (hD _ h).2.1 (.inr ⟨x, hc⟩)) h.1, h.2⟩, h2⟩, hsep⟩
theorem FOk.other {q : Addr} {h' : Heap} {t : Nat} {σ' : Ow} (k : FOk G K A env ρ σ F s) (hq : F q = none) (hs : Heap.ExtBut q s.heap h') (hn : ¬ Own env q) (hf : NoFr A q)
    (hσ : ∀ a c, σ' a = some c → F a = none ∧ ∃ o, h'.get? a = some o ∧ OcR F o c) (hsep : ∀ a c, σ' a = some c → ¬ Own env a ∧ (c.rw = true → NoFr A a)) : FOk G K A env ρ σ' F { s with heap := h', toks := t } :=
  k.others (D := (· = q)) (fun _ e => e ▸ ⟨hq, hn, hf⟩) (fun b o h e => hs b o h e) hσ hsep
theorem FOk.notOwn {q : Addr} {o : Obj} (k : FOk G K A env ρ σ F s) (ho : s.heap.get? q = some o) (h1 : ∀ es n, o.data ≠ .dict es n) (h2 : ∀ v, o.data ≠ .cell v) : ¬ Own env q := by
  rintro (rfl | ⟨x, hx⟩)
  · obtain ⟨mm, ⟨o', es, ep, e, hd, _⟩, _⟩ := k.e.loc.vars
    rw [ho] at e; cases e; exact h1 _ _ hd
  · obtain ⟨⟨ov, o', e, hd⟩, _⟩ := k.own x q hx
    rw [ho] at e; cases e; exact h2 _ hd
theorem relO_some {v : Value} (r : Rel F x v) : RelO F x (some v) := fun _ => ⟨v, rfl, r⟩
theorem store_ok {n : Str} {i : Nat} {v : Value} {R : Unit → Shared → Prop} (k : FOk G K A env ρ σ F s) (hx : nameOK K i n = true) (r : Rel F x v)
    (h : ∀ h' t, FOk G K A env (ρ.set i x) σ F { s with heap := h', toks := t } → Lk env σ F s σ F { s with heap := h', toks := t } → (∀ b o, ¬ Own env b → s.heap.get? b = some o → h'.get? b = some o) → R () { s with heap := h', toks := t }) : wpAny G.M A (storeName env n v) R E s := by
  obtain ⟨mm, hn, vars⟩ := k.e.loc.vars
  obtain ⟨hx, hk, _⟩ := nameOK_inv hx
  obtain ⟨o, es, ep, ho, hd, hr⟩ := id hn
  -- the parts that both ways share: q is the object that changes
  have fin : ∀ (q : Addr) (oq : Obj) (h' : Heap) (t : Nat), s.heap.get? q = some oq → F q = none → Own env q → Heap.SameBut q s.heap h' → (∃ o', h'.get? q = some o' ∧ ∀ o, s.heap.get? q = some o → DK o o') → (∃ m, h'.Ns env.locals m ∧ ∀ (j : Nat) (y : Str) (w : V), K.ns[j]? = some y → (ρ.set i x)[j]? = some w →
      (K.sc.names.lookup y = some .local → RelO F w (m y)) ∧ (K.sc.names.lookup y = some .cell → ∃ c ov, env.cells.lookup y = some c ∧ h'.IsCell c ov ∧ RelO F w ov ∧ F c = none)) →
      (∀ x c, (x, c) ∈ env.cells → ∃ ov, h'.IsCell c ov) → R () { s with heap := h', toks := t } := fun q oq h' t hq hF ho hs hv hvars hcells =>
    h h' t ⟨⟨⟨k.e.rm.go, k.e.rm.base, fun a o e => hs.extBut a o (by rintro rfl; exact nomatch hF.symm.trans e) (k.e.rm.sub a o e), k.e.rm.depth, k.e.rm.units, k.e.rm.handled, k.e.rm.frs fun L _ hL t => ⟨hL, t.elim fun o t => t.elim fun es t => t.elim fun n t => (Classical.em (L = q)).elim (fun e => by subst e; exact hv.imp fun _ u => (u.2 o t.1 es n t.2).imp fun _ w => w.imp fun _ w => ⟨u.1, w⟩) fun e => ⟨o, es, n, hs.extBut L o e t.1, t.2⟩⟩⟩, k.e.sc, k.e.kind, k.e.globals, k.e.builtins,
        fun a c q => (k.e.own a c q).elim fun h1 h2 => ⟨h1, h2.imp fun o h2 => ⟨hs.extBut a _ (by rintro rfl; exact (k.sep _ c q).1 ho) h2.1, h2.2⟩⟩,
        ⟨by rw [List.length_set]; exact k.e.loc.len, k.e.loc.out, hvars⟩⟩, k.top, k.apart, k.nodup, fun x c hc => ⟨hcells x c hc, (k.own x c hc).2⟩, k.sep⟩
      ⟨St.change k.e.rm.sub hF (.inl (.inl ho)) hs.extBut hv, fun b xs q => .inl ⟨xs, q, id⟩⟩ fun b o hb e => hs.extBut b o (by rintro rfl; exact hb ho) e
  rcases hk with hk | hk
  · refine wpAny_storeName_local ((kindOf_eq k.e n).trans hk) hn (fun h' hn' hs' => ?_) (by rw [k.e.kind]; rfl)
    refine fin env.locals o h' (s.toks + 1) ho k.e.loc.out (.inl rfl) hs' (hn'.imp fun _ t => t.elim fun _ t => t.elim fun _ t => ⟨t.1, fun _ _ _ _ _ => ⟨_, _, t.2.1⟩⟩) ⟨_, hn', fun j y w hy hw => ?_⟩ fun x c hc => (k.own x c hc).1.imp fun ov h => h.sameBut hs' ?_
    · rcases set_get hw with ⟨rfl, rfl⟩ | ⟨hj, hw⟩
      · cases hy.symm.trans hx
        exact ⟨fun _ => by rw [if_pos rfl]; exact relO_some r, fun hc => nomatch hk.symm.trans hc⟩
      · have hne : y ≠ n := by rintro rfl; exact hj (ns_inj k.nodup hy hx)
        refine ⟨fun hl => by rw [if_neg hne]; exact (vars j y w hy hw).1 hl, fun hc => ((vars j y w hy hw).2 hc).imp fun c u => u.imp fun ov u => ⟨u.1, u.2.1.sameBut hs' ?_, u.2.2⟩⟩
        rintro rfl; obtain ⟨oc, hoc, hdc⟩ := u.2.1; rw [ho] at hoc; cases hoc; rw [hd] at hdc; cases hdc
    · rintro rfl; obtain ⟨oc, hoc, hdc⟩ := h; rw [ho] at hoc; cases hoc; rw [hd] at hdc; cases hdc
  · have hi : i < ρ.length := by rw [k.e.loc.len]; exact (List.getElem?_eq_some_iff.mp hx).1
    obtain ⟨c, ov, h1, h2, h3, h4⟩ := (vars i n _ hx (List.getElem?_eq_getElem hi)).2 hk
    refine wpAny_storeName_cell k.e.kind ((kindOf_eq k.e n).trans hk) h1 h2 fun h' hn' hs' => ?_
    obtain ⟨oc, hoc, hdc⟩ := id h2
    have hcl : env.locals ≠ c := by rintro rfl; rw [ho] at hoc; cases hoc; rw [hd] at hdc; cases hdc
    refine fin c oc h' s.toks hoc h4 (.inr ⟨n, mem_of_lookup h1⟩) hs' (hn'.imp fun _ h => ⟨h.1, fun o e es n t => by cases hoc.symm.trans e; exact nomatch hdc.symm.trans t⟩) ⟨mm, hn.sameBut hs' hcl, fun j y w hy hw => ?_⟩ fun x d hc => ?_
    · rcases set_get hw with ⟨rfl, rfl⟩ | ⟨hj, hw⟩
      · cases hy.symm.trans hx
        exact ⟨fun hl => (nomatch hk.symm.trans hl), fun _ => ⟨c, some v, h1, hn', relO_some r, h4⟩⟩
      · have hne : y ≠ n := by rintro rfl; exact hj (ns_inj k.nodup hy hx)
        refine ⟨(vars j y w hy hw).1, fun hc => ((vars j y w hy hw).2 hc).imp fun c' u => u.imp fun ov u => ⟨u.1, u.2.1.sameBut hs' ?_, u.2.2⟩⟩
        rintro rfl; exact hne (name_of_addr k.apart (mem_of_lookup u.1) (mem_of_lookup h1))
    · exact (Classical.em (d = c)).elim (fun e => e ▸ ⟨_, hn'⟩) fun e => (k.own x d hc).1.imp fun _ h => h.sameBut hs' e
theorem ws_nil (h : Q .next ρ σ) : WS G K [] ρ σ Q := fun A env F s E k => wpAny_execs_nil (k.here h)
theorem ws_cons (h1 : WS1 G K st ρ σ (Kc G K ss Q)) : WS G K (st :: ss) ρ σ Q := fun A env F s E k =>
  wpAny_execs_cons (wpAny_mono (h1 A env F s E k) (fun f s₁ h => h.casesOn fun fl ρ' σ' F' hf k' L q => by
    cases f <;> cases fl <;> first | exact hf.elim | skip
    · exact ws_from L (q A env F' s₁ E k')
    · exact ⟨_, ρ', σ', F', hf, k', L, q⟩) fun _ _ e => e)
theorem ws_asg (i : Nat) {n : Str} (h1 : Ev G K ρ σ e x) (h2 : WS G K ss (ρ.set i x) σ Q) (hx : nameOK K i n = true := by decide +kernel) (hsw : ∀ env, env.scope = K.sc → swapsWith e (some (.Name n q)) p.line env = pure false := by intros; rfl) : WS G K (.Assign [.Name n q] e p :: ss) ρ σ Q :=
  ws_cons fun A env F s E k => wpAny_Assign_Name (h1.bind k.e fun v F₁ s₁ S r k₁ => store_ok (k.step S) hx r fun h' t k₂ L _ => ⟨.next, _, σ, F₁, trivial, k₂, (St.lk S).trans L, h2⟩) (hsw env k.e.sc)
theorem ws_ret (h1 : Ev G K ρ σ e x) (h : Q (.ret x) ρ σ) : WS G K (.Return (some e) p :: ss) ρ σ Q :=
  ws_cons fun A env F s E k => wpAny_Return_some (h1.bind k.e fun v F₁ s₁ S r k₁ => ⟨.ret x, ρ, σ, F₁, r, k.step S, S.lk, h⟩)
theorem ws_retN (h : Q (.ret .none) ρ σ) : WS G K (.Return none p :: ss) ρ σ Q :=
  ws_cons fun A env F s E k => wpAny_Return_none ⟨.ret .none, ρ, σ, F, rfl, k, (St.refl k.e.rm.sub).lk, h⟩
theorem ws_if {a b' : List Stmt} (h1 : Tr G K ρ σ c b) (ht : b = true → WS G K a ρ σ (Kc G K ss Q))
    (hf : b = false → WS G K b' ρ σ (Kc G K ss Q)) : WS G K (.If c a b' p :: ss) ρ σ Q :=
  ws_cons fun A env F s E k => wpAny_If (h1.bind k.e fun F₁ s₁ S k₁ => by
    cases b
    · exact ws_from S.lk (hf rfl A env F₁ s₁ E (k.step S))
    · exact ws_from S.lk (ht rfl A env F₁ s₁ E (k.step S)))
theorem ws_mono {Q' : KS} (h : WS G K ss ρ σ Q) (hq : ∀ f ρ σ, Q f ρ σ → Q' f ρ σ) : WS G K ss ρ σ Q' := fun A env F s E k =>
  wpAny_mono (h A env F s E k) (fun _ _ q => q.casesOn fun fl ρ' σ' F' hf k' L q => ⟨fl, ρ', σ', F', hf, k', L, hq _ _ _ q⟩) fun _ _ e => e
end
end Mine

set_option autoImplicit false
set_option linter.all false
set_option genSizeOf false
set_option genInjectivity false
set_option maxRecDepth 100000
namespace Mine
open PySem PyProof.Rows
def Kl (I : Nat → List V → Ow → Prop) (n : Nat) (Q : KS) : KS := fun f ρ σ => match f with | .next => ∃ k, k < n ∧ I k ρ σ | .ret x => Q (.ret x) ρ σ
def Kf (I : Nat → List V → Ow → Prop) (n : Nat) (Q : KS) : KS := fun f ρ σ => match f with | .next => I n ρ σ | .ret x => Q (.ret x) ρ σ
section
variable {G : Gl} {K : Sx} {A : Around} {env : Env} {ρ ρ₁ : List V} {σ σ₀ σ₁ σ₂ : Ow} {F F₀ F₁ F₂ : Fz} {s s₀ s₁ s₂ : Shared} {E : Value → Shared → Prop} {Q : KS} {e c t : PySem.Expr} {ss body : List Stmt} {st : Stmt} {x y z : V} {p q : Pos} {b : Bool} {xs ys : List V}
theorem ws_while (I : Nat → List V → Ow → Prop) (n : Nat) (h0 : I n ρ σ) (turn : ∀ n ρ σ, I n ρ σ → ∃ b, Tr G K ρ σ c b ∧ (b = true → WS G K body ρ σ (Kl I n Q)) ∧ (b = false → WS G K ss ρ σ Q)) : WS G K (.While c body [] p :: ss) ρ σ Q :=
  ws_cons fun A env F s E k => wpAny_While (codeAny_whileLoop (fun m s' => ∃ ρ' σ' F', FOk G K A env ρ' σ' F' s' ∧ Lk env σ F s σ' F' s' ∧ I m ρ' σ') (by
    rintro m s' ⟨ρ', σ', F', k', L', hI⟩
    obtain ⟨b, h1, h2, h3⟩ := turn m ρ' σ' hI
    refine h1.bind k'.e fun F₁ s₁ S k₁ => ?_
    cases b
    · exact wpAny_execs_nil ⟨.next, ρ', σ', F₁, trivial, k'.step S, L'.trans S.lk, h3 rfl⟩
    · refine wpAny_mono (h2 rfl A env F₁ s₁ _ (k'.step S)) (fun f s₂ h => h.casesOn fun fl ρ₂ σ₂ F₂ hf k₂ L₂ q => ?_) fun _ _ e => e
      cases f <;> cases fl <;> first | exact hf.elim | skip
      · exact q.imp fun _ q => ⟨q.1, ρ₂, σ₂, F₂, k₂, (L'.trans S.lk).trans L₂, q.2⟩
      · exact ⟨_, ρ₂, σ₂, F₂, hf, k₂, (L'.trans S.lk).trans L₂, q⟩) n ⟨ρ, σ, F, k, (St.refl k.e.rm.sub).lk, h0⟩)
def ownTs : List String := ["enumerate", "zip", "dict_itemiterator", "dict_reverseitemiterator", "odict_iterator", "itertools.zip_longest", "itertools.pairwise"]
def itemsOf : V → Option (List V)
  | .tup xs | .lst xs | .scr xs => some xs
  | .rng a b => some ((List.range (b - a).toNat).map fun (i : Nat) => V.int (a + (i : Int)))
  | .str s => some (s.map fun c => .str [c])
  | _ => none
structure It (G : Gl) (A : Around) (F : Fz) (it : Addr) (xs : List V) (P : Nat → Heap → Prop) : Prop where
  keep : ∀ i h h', P i h → (∀ a o, F a = some o → h.get? a = some o) → (∀ a o, F a = some o → h'.get? a = some o) → (∀ o, h.get? it = some o → h'.get? it = some o) → P i h'
  item : ∀ (i : Nat) s Q E y, xs[i]? = some y → P i s.heap → (∀ v h' tk, Rel F y v → P (i + 1) h' → Heap.ExtBut it s.heap h' → Q (some v) { s with heap := h', toks := tk }) → wpAny G.M A (pyNext (.ref it)) Q E s
  done : ∀ s Q E, P xs.length s.heap → (∀ h' tk, Heap.ExtBut it s.heap h' → Q none { s with heap := h', toks := tk }) → wpAny G.M A (pyNext (.ref it)) Q E s
  self : ∀ i s Q E, P i s.heap → Q (.ref it) s → wpAny G.M A (pyIter (.ref it)) Q E s
  obj : ∀ i h, P i h → ∃ o T vs, h.get? it = some o ∧ o.cls = .type T ∧ o.data = .fields vs ∧ ownTs.contains T = false
theorem it_of {it : Addr} {fp : List Addr} {n : Nat} {P : Nat → Value → Prop} {T : Nat → Heap → Prop} (W : Walks G.prog G.w A it fp [it] n P T) (hn : xs.length = n) (hfp : ∀ b ∈ fp, b ≠ it → ∃ o, F b = some o)
    (hP : ∀ (i : Nat) y v, xs[i]? = some y → P i v → Rel F y v) (hobj : ∀ i h, T i h → ∃ o T vs, h.get? it = some o ∧ o.cls = .type T ∧ o.data = .fields vs ∧ ownTs.contains T = false) : It G A F it xs T where
  keep i h h' t h1 h2 h3 := W.frame i h h' t fun b hb o e => (Classical.em (b = it)).elim (fun q => by subst q; exact h3 o e) fun q => (hfp b hb q).elim fun o' e' => (e.symm.trans (h1 b o' e')) ▸ h2 b o' e'
  item i s Q E y hy t k := W.item i s Q E (hn ▸ (List.getElem?_eq_some_iff.mp hy).1) t fun v h' tk hp t' hk => k v h' tk (hP i y v hy hp) t' fun b o hb e => hk b o (fun q => hb (List.mem_singleton.mp q)) e
  done s Q E t k := W.done s Q E (hn ▸ t) fun h' tk hk => k h' tk fun b o hb e => hk b o (fun q => hb (List.mem_singleton.mp q)) e
  self := W.self
  obj := hobj
theorem iter_ok {v : Value} {R : Value → Shared → Prop} (hi : itemsOf x = some xs) (k : Rm G A F s) (r : Rel F x v)
    (h : ∀ ob P, It G A F s.heap.objs.size xs P → P 0 (s.heap.push ob) → R (.ref s.heap.objs.size) { s with heap := s.heap.push ob }) : wpAny G.M A (pyIter v) R E s := by
  have ne : ∀ {a : Addr} {o : Obj}, F a = some o → a ≠ s.heap.objs.size := fun e => by rintro rfl; exact nomatch (size_none s.heap).symm.trans (k.sub _ _ e)
  have one : ∀ {a it : Addr} {o : Obj}, F a = some o → ∀ b ∈ [it, a], b ≠ it → ∃ o, F b = some o := fun e b hb hn => by
    rcases List.mem_cons.mp hb with q | q
    · exact absurd q hn
    · cases List.mem_singleton.mp q; exact ⟨_, e⟩
  have lst : ∀ {a : Addr} {o : Obj} {vs : List Value}, F a = some o → (o.cls = .type "list" ∧ ∃ n, o.data = .seq vs.toArray n) → RelL F xs vs → wpAny G.M A (pyIter (.ref a)) R E s := fun {a o vs} e q rl =>
    have hl : s.heap.IsList a vs.toArray := ⟨o, k.sub _ _ e, q⟩
    wpAny_pyIter_list hl (h _ _ (it_of (Walks.list k.handled _ a (ne e) vs.toArray) (by rw [List.size_toArray, rl.length]) (one e) (fun i y v hy hv => (rl.get hy).elim fun v' q => by
      have : vs[i]? = some v := by simpa using hv
      cases this.symm.trans q.1; exact q.2) fun i h t => t.1.elim fun o q => ⟨o, _, _, q.1, q.2.1, q.2.2, rfl⟩) ⟨⟨_, Heap.get?_push_size _ rfl, rfl, rfl⟩, hl.push _⟩)
  cases x <;> first | (cases hi; done) | (cases hi; skip)
  case str a =>
    obtain ⟨t, rfl⟩ := r
    have hP : ∀ (i : Nat) y v, (a.map fun c => V.str [c])[i]? = some y → SignAt ⟨a.toArray⟩ i v → Rel F y v := by
      rintro i y v hy ⟨c, u, hc, rfl⟩
      have hc : a[i]? = some c := by simpa using hc
      rw [List.getElem?_map, hc] at hy
      cases hy; exact ⟨u, rfl⟩
    have ob : ∀ T, ownTs.contains T = false → ∀ i (h : Heap), h.IsStrIter s.heap.objs.size T ⟨a.toArray⟩ t i → ∃ o T vs, h.get? s.heap.objs.size = some o ∧ o.cls = .type T ∧ o.data = .fields vs ∧ ownTs.contains T = false :=
      fun T hT i h q => q.elim fun o q => ⟨o, _, _, q.1, q.2.1, q.2.2, hT⟩
    cases ha : (⟨a.toArray⟩ : Str).cps.all (· < 128)
    · exact wpAny_pyIter_wide ha (h _ _ (it_of (Walks.strWide k.handled _ _ t) (by simp) (fun b hb hn => absurd (List.mem_singleton.mp hb) hn) hP (ob _ rfl)) ⟨_, Heap.get?_push_size _ rfl, rfl, rfl⟩)
    · exact wpAny_pyIter_ascii ha (h _ _ (it_of (Walks.strAscii k.handled _ _ t) (by simp) (fun b hb hn => absurd (List.mem_singleton.mp hb) hn) hP (ob _ rfl)) ⟨_, Heap.get?_push_size _ rfl, rfl, rfl⟩)
  case tup =>
    obtain ⟨a, vs, rfl, ⟨n, e⟩, rl⟩ := r
    have ht : s.heap.IsTuple a vs.toArray := ⟨_, k.sub _ _ e, rfl, n, rfl⟩
    exact wpAny_pyIter_tuple ht (h _ _ (it_of (Walks.tuple k.handled _ a (ne e) vs.toArray) (by rw [List.size_toArray, rl.length]) (one e) (fun i y v hy hv => (rl.get hy).elim fun v' q => by
      have : vs[i]? = some v := by simpa using hv
      cases this.symm.trans q.1; exact q.2) fun i h t => t.1.elim fun o q => ⟨o, _, _, q.1, q.2.1, q.2.2, rfl⟩) ⟨⟨_, Heap.get?_push_size _ rfl, rfl, rfl⟩, ht.at fun o e => Heap.get?_push_of_some _ e⟩)
  case lst =>
    obtain ⟨a, vs, rfl, ⟨n, e⟩, rl⟩ := r
    exact lst e ⟨rfl, n, rfl⟩ rl
  case scr =>
    obtain ⟨a, vs, rfl, ⟨o, e, q⟩, rl⟩ := r
    exact lst e q rl
  case rng a b =>
    obtain ⟨⟨h1, h2, h3, h4⟩, a', t, u, w, rfl, e⟩ := r
    refine wpAny_pyIter_range (k.sub _ _ e) (small_one h1 h2 h3 h4) (h _ _ (it_of (Walks.range k.handled _ a 1 (b - a).toNat) (by simp) (fun b hb hn => absurd (List.mem_singleton.mp hb) hn) ?_ fun i h q => ⟨_, _, _, q, rfl, rfl, rfl⟩) ?_)
    · rintro i y v hy ⟨u, rfl⟩
      have hlt : i < (b - a).toNat := by have := (List.getElem?_eq_some_iff.mp hy).1; simpa using this
      rw [List.getElem?_map, List.getElem?_range hlt] at hy
      cases hy; exact ⟨u, by rw [Int.mul_one]⟩
    · have e : Builtin.Range.rangeSize a b 1 = ((b - a).toNat : Int) := by rw [rangeSize_one]; split <;> (first | exact a35 ‹_› | exact a36 ‹_›)
      rw [e]
      have := Heap.get?_push_size s.heap (o := { cls := .type "range_iterator", data := .fields #[rawInt a, rawInt ((b - a).toNat : Int), rawInt 1] }) rfl
      show Heap.get? _ _ = _
      simpa using this
theorem Lk.priv {r : Addr} {h' : Heap} {t : Nat} (L : Lk env σ₀ F₀ s₀ σ F s) (hq : F r = none) (h0 : s₀.heap.get? r = none) (hs : Heap.ExtBut r s.heap h') : Lk env σ₀ F₀ s₀ σ F { s with heap := h', toks := t } :=
  have ne : ∀ b o, s₀.heap.get? b = some o → b ≠ r := fun b o e => by rintro rfl; exact nomatch h0.symm.trans e
  ⟨⟨L.S.up, fun a o e => hs a o (by rintro rfl; exact nomatch hq.symm.trans e) (L.S.sub a o e), fun b o e d => (L.S.keepO b o e d).imp fun o' q => ⟨hs b o' (ne b o e) q.1, q.2⟩, fun b o e => (L.S.live b o e).imp fun o' e' => ⟨hs b o' (ne b o e) e'.1, e'.2⟩, L.S.new, by rw [L.S.rest]⟩, L.d⟩
def Asg (G : Gl) (K : Sx) (t : PySem.Expr) (y : V) (ρ ρ' : List V) : Prop := ∀ A env σ F s E v (R : Unit → Shared → Prop), FOk G K A env ρ σ F s → Rel F y v →
  (∀ h' tk, FOk G K A env ρ' σ F { s with heap := h', toks := tk } → Lk env σ F s σ F { s with heap := h', toks := tk } → (∀ b o, ¬ Own env b → s.heap.get? b = some o → h'.get? b = some o) → R () { s with heap := h', toks := tk }) → wpAny G.M A (assign t env v) R E s
theorem asg_name (i : Nat) {n : Str} (hx : nameOK K i n = true := by decide +kernel) : Asg G K (.Name n q) y ρ (ρ.set i y) := fun A env σ F s E v R k r h => wpAny_assign_Name (store_ok k hx r h)
theorem owned_go {target : PySem.Expr} {it : Addr} {v' : Value} {R : Unit → Shared → Prop} {M : Model} (ho : ∃ o T vs, s.heap.get? it = some o ∧ o.cls = .type T ∧ o.data = .fields vs ∧ ownTs.contains T = false) (k : R () s) : wpAny M A (letOwnedTupleGo target (.ref it) v') R E s := by
  obtain ⟨o, T, vs, ho, hc, hd, hT⟩ := ho
  unfold ownTs at hT
  unfold letOwnedTupleGo
  split
  all_goals first
    | exact wpAny_pure k
    | (split
       all_goals first
         | (rename_i heq
            cases heq
            refine wpAny_bind (wpAny_load ho ?_)
            rw [hc, hd]
            simp only [hT, Bool.false_and, Bool.false_eq_true, if_false]
            exact wpAny_pure k)
         | exact wpAny_pure k)
theorem forLoop_rule {prog : Program} {w : World} {R : Result → Shared → Prop} {Ex : Value → Shared → Prop} {target : PySem.Expr} {it : Value} {body : List PySem.Stmt} {env : Env} {s : Shared} (I : Nat → Shared → Prop)
    (hx : ∀ v s', Ex v s' → notedBy (model prog w) A env (fun e s' => R (.error e) s') v s')
    (turn : ∀ n s, I n s → wpAny (model prog w) A (pyNext it) (fun r s₁ => match r with
      | none => R (.ok .next) s₁
      | some v => wpAny (model prog w) A (letOwnedTupleGo target it v) (fun _ s₁' => wpAny (model prog w) A (assign target env v) (fun _ s₂ => wpAny (model prog w) A (execs body env) (fun f s₃ => match f with
          | .next | .cont => ∃ m, m < n ∧ I m s₃
          | .brk => R (.ok .next) s₃
          | .ret v => R (.ok (.ret v)) s₃) Ex s₂) Ex s₁') Ex s₁) Ex s)
    (n : Nat) (h : I n s) : codeAny (model prog w) A (.forLoop target it body [] env) R s := by
  refine codeAny_loop' rfl I (fun n s hI => ?_) n h
  show wpAny _ _ ((forTurn target it body [] env).onRaise (fun x => do noteFrame x env; theTreesLotGoes x)) _ _ s
  refine wpAny_noted ?_
  simp only [forTurn]
  refine wpAny_bind (wpAny_standAt (wpAny_bind (wpAny_onRaise (wpAny_mono (wpAny_mono (turn n s hI) (fun r s₁ h₁ => h₁) hx) (fun r s₁ h₁ => ?_) fun _ _ h' => wpAny_standAt h'))))
  cases r with
  | none => exact wpAny_pure (.inr ⟨rfl, codeAny_block (wpAny_execs_nil h₁)⟩)
  | some v =>
    refine wpAny_bind (wpAny_mono h₁ (fun _ s₁' h₁' => ?_) hx)
    refine wpAny_bind (wpAny_mono h₁' (fun _ s₂ h₂ => wpAny_bind (wpAny_mono h₂ (fun f s₃ h₃ => ?_) hx)) hx)
    cases f with
    | next => exact wpAny_pure (.inl ⟨rfl, h₃⟩)
    | cont => exact wpAny_pure (.inl ⟨rfl, h₃⟩)
    | brk => exact wpAny_pure h₃
    | ret v => exact wpAny_pure h₃
theorem Lk.recs (L : Lk env σ F s σ₁ F₁ s₁) (k : FOk G K A env ρ σ F s) : (∀ a o, F a = some o → F₁ a = some o) ∧ ∀ b o vs, s.heap.get? b = some o → o.data = .fields vs → F b = none → σ b = none → s₁.heap.get? b = some o ∧ F₁ b = none ∧ σ₁ b = none :=
  ⟨L.S.up, fun b o vs ho hd hF hσ => ⟨L.S.keep b o ho (fun q => q.elim (k.notOwn ho (fun _ _ e => nomatch hd.symm.trans e) fun _ e => nomatch hd.symm.trans e) fun q => q.elim fun _ q => (nomatch hσ.symm.trans q.1)) (fun _ _ e => nomatch hd.symm.trans e), L.S.out hF ho, by
    cases hq : σ₁ b with
    | none => rfl
    | some xs => exact (L.d b xs hq).elim (fun q => q.elim fun _ q => nomatch hσ.symm.trans q.1) fun q => nomatch ho.symm.trans q⟩⟩
theorem for_core {R : Flow → Shared → Prop} {Ex : Value → Shared → Prop} (I : Nat → List V → Ow → Fz → Heap → Prop) (k : FOk G K A env ρ σ F s) (L₀ : Lk env σ₀ F₀ s₀ σ F s) (h1 : wpAny G.M A (eval e env) (fun v s₁ => ∃ F₁, St N0 F s F₁ s₁ ∧ Rel F₁ x v ∧ I 0 ρ σ F₁ s₁.heap) E s) (hi : itemsOf x = some xs)
    (hx : ∀ v s', Ex v s' → notedBy G.M A env (cameBackBy G.M A env E) v s')
    (stab : ∀ i ρ σ F (h h' : Heap), I i ρ σ F h → (∀ b o, h.get? b = some o → (∀ vs, o.data ≠ .fields vs) → h'.get? b = some o) → I i ρ σ F h')
    (turn : ∀ (i : Nat) ρ' σ' F' s' y v, xs[i]? = some y → FOk G K A env ρ' σ' F' s' → Lk env σ₀ F₀ s₀ σ' F' s' → I i ρ' σ' F' s'.heap → Rel F' y v → wpAny G.M A (assign t env v) (fun _ s₂ => wpAny G.M A (execs body env) (fun f s₃ => ∃ fl ρ₃ σ₃ F₃, FlRel F₃ f fl ∧ FOk G K A env ρ₃ σ₃ F₃ s₃ ∧ Lk env σ₀ F₀ s₀ σ₃ F₃ s₃ ∧
      ((∀ a o, F' a = some o → F₃ a = some o) ∧ ∀ b o vs, s'.heap.get? b = some o → o.data = .fields vs → F' b = none → σ' b = none → s₃.heap.get? b = some o ∧ F₃ b = none ∧ σ₃ b = none) ∧ (fl = .next → I (i + 1) ρ₃ σ₃ F₃ s₃.heap) ∧ (∀ x, fl = .ret x → R f s₃)) Ex s₂) Ex s')
    (fin : ∀ ρ' σ' F' s', FOk G K A env ρ' σ' F' s' → Lk env σ₀ F₀ s₀ σ' F' s' → I xs.length ρ' σ' F' s'.heap → R .next s') (hns : ∀ v, foldedSetIterable e env v = pure v) : wpAny G.M A (exec (.For t e body [] p) env) R E s :=
  wpAny_For (wpAny_mono h1 (fun v s₁ q => q.elim fun F₁ q => iter_ok hi (k.e.rm.step q.1) q.2.1 fun ob P W hP => by
    obtain ⟨S₁, r₁, h0⟩ := q
    have k₁ := k.e.step S₁
    have hn : s₁.heap.get? s₁.heap.objs.size = none := size_none _
    generalize s₁.heap.objs.size = it at *
    have S₂ : St N0 F₁ s₁ F₁ { s₁ with heap := s₁.heap.push ob } := St.grow (t := s₁.toks) k₁.rm.sub fun _ _ e => Heap.get?_push_of_some _ e
    have hs : s₀.heap.get? it = none := L₀.S.dead (S₁.dead hn)
    have hF : F₁ it = none := by
      cases q : F₁ it with
      | none => rfl
      | some o => exact nomatch hn.symm.trans (k₁.rm.sub _ _ q)
    refine forLoop_rule (Ex := Ex) (fun m s' => ∃ i ρ' σ' F', m + i = xs.length + 1 ∧ i ≤ xs.length ∧ FOk G K A env ρ' σ' F' s' ∧ Lk env σ₀ F₀ s₀ σ' F' s' ∧ (∀ a o, F₁ a = some o → F' a = some o) ∧ F' it = none ∧ σ' it = none ∧ P i s'.heap ∧ I i ρ' σ' F' s'.heap) hx (fun m s' => ?_) (xs.length + 1)
      ⟨0, ρ, σ, F₁, rfl, Nat.zero_le _, (k.step S₁).step S₂, L₀.trans (S₁.trans S₂).lk, fun _ _ e => e, hF, ?_, hP, stab _ _ _ _ _ _ h0 fun b o e _ => Heap.get?_push_of_some _ e⟩
    · rintro ⟨i, ρ', σ', F', hm, hle, k', L', up, hF', hσ', hP', hI⟩
      obtain ⟨oi, T, ovs, hoi, hc, hd, _⟩ := W.obj _ _ hP'
      have own : ¬ Own env it := k'.notOwn hoi (fun _ _ e => by rw [hd] at e; cases e) fun _ e => by rw [hd] at e; cases e
      have nofr : NoFr A it := k'.e.rm.nofr fun o es n e h => by cases hoi.symm.trans e; exact nomatch hd.symm.trans h
      have other : ∀ {h₁ : Heap} {t₁ : Nat}, Heap.ExtBut it s'.heap h₁ → FOk G K A env ρ' σ' F' { s' with heap := h₁, toks := t₁ } ∧ Lk env σ₀ F₀ s₀ σ' F' { s' with heap := h₁, toks := t₁ } ∧ ∀ j, I j ρ' σ' F' s'.heap → I j ρ' σ' F' h₁ := fun hs₁ =>
        ⟨k'.other hF' hs₁ own nofr (fun a xs q => (k'.e.own a xs q).elim fun h1 h2 => ⟨h1, h2.imp fun o h2 => ⟨hs₁ _ _ (by rintro rfl; exact nomatch hσ'.symm.trans q) h2.1, h2.2⟩⟩) k'.sep, L'.priv hF' hs hs₁, fun j h => stab j _ _ _ _ _ h fun b o e hb => hs₁ b o (by rintro rfl; cases hoi.symm.trans e; exact hb _ hd) e⟩
      rcases Nat.lt_or_ge i xs.length with hlt | hge
      · obtain ⟨y, hy⟩ : ∃ y, xs[i]? = some y := ⟨_, List.getElem?_eq_getElem hlt⟩
        refine W.item i s' _ Ex y hy hP' fun v' h₁ t₁ hr hP₁ hs₁ => owned_go (W.obj _ _ hP₁) ?_
        obtain ⟨k₁, L₁, st⟩ := other (t₁ := t₁) hs₁
        refine wpAny_mono (turn i ρ' σ' F' _ y v' hy k₁ L₁ (st i hI) (hr.mono up)) (fun _ s₂ q => wpAny_mono q (fun f s₃ h => ?_) fun _ _ e => e) fun _ _ e => e
        obtain ⟨fl, ρ₃, σ₃, F₃, hf, k₃, L₃, ⟨u₃, rec⟩, q1, q2⟩ := h
        cases f <;> cases fl <;> first | exact hf.elim | skip
        · obtain ⟨oi', T', vs', hoi', _, h3, _⟩ := W.obj _ _ hP₁
          obtain ⟨g1, g2, g3⟩ := rec it oi' vs' hoi' h3 hF' hσ'
          exact ⟨m - 1, by (exact a14 hm hle), i + 1, ρ₃, σ₃, F₃, by (exact a28 hm hle), hlt, k₃, L₃, fun a o e => u₃ a o (up a o e), g2, g3, W.keep _ _ _ hP₁ (fun a o e => k₁.e.rm.sub a o (up a o e)) (fun a o e => k₃.e.rm.sub a o (u₃ a o (up a o e))) fun o e => by cases hoi'.symm.trans e; exact g1, q1 rfl⟩
        · exact q2 _ rfl
      · cases Nat.le_antisymm hle hge
        refine W.done s' _ Ex hP' fun h₁ t₁ hs₁ => ?_
        obtain ⟨k₁, L₁, st⟩ := other (t₁ := t₁) hs₁
        exact fin ρ' σ' F' _ k₁ L₁ (st _ hI)
    · cases hq : σ it with
      | none => rfl
      | some xs => exact (k.e.own it xs hq).2.elim fun _ q => nomatch (S₁.dead hn).symm.trans q.1) fun _ _ e => e) hns
theorem ws_for (I : Nat → List V → Ow → Prop) (h1 : Ev G K ρ σ e x) (hi : itemsOf x = some xs) (h0 : I 0 ρ σ) (turn : ∀ (i : Nat) ρ σ y, xs[i]? = some y → I i ρ σ → ∃ ρ', Asg G K t y ρ ρ' ∧ WS G K body ρ' σ (Kf I (i + 1) Q)) (fin : ∀ ρ σ, I xs.length ρ σ → WS G K ss ρ σ Q) (hns : ∀ env v, foldedSetIterable e env v = pure v := by intros; rfl) : WS G K (.For t e body [] p :: ss) ρ σ Q :=
  ws_cons fun A env F s E k => for_core (R := PS G K A env σ F s (Kc G K ss Q)) (fun i ρ σ _ _ => I i ρ σ) k (St.refl k.e.rm.sub).lk (h1.bind k.e fun v F₁ s₁ S r _ => ⟨F₁, S, r, h0⟩) hi (fun _ _ h => h) (fun _ _ _ _ _ _ h _ => h) (fun i ρ' σ' F' s' y v hy k' L' hI hr => by
    obtain ⟨ρ₂, ha, hb⟩ := turn i ρ' σ' y hy hI
    refine ha A env σ' F' s' _ v _ k' hr fun h₂ t₂ k₂ L₂ _ => wpAny_mono (hb A env F' _ _ k₂) (fun f s₃ h => h.casesOn fun fl ρ₃ σ₃ F₃ hf k₃ L₃ q => ⟨fl, ρ₃, σ₃, F₃, hf, k₃, L'.trans (L₂.trans L₃), (L₂.trans L₃).recs k', ?_, ?_⟩) fun _ _ e => e
    · rintro rfl; exact q
    · rintro x rfl; exact ⟨_, ρ₃, σ₃, F₃, hf, k₃, (L'.trans L₂).trans L₃, q⟩) (fun ρ' σ' F' s' k' L' hI => ⟨.next, ρ', σ', F', trivial, k', L', fin ρ' σ' hI⟩) (hns env)
end
end Mine

set_option autoImplicit false
set_option linter.all false
set_option genSizeOf false
set_option genInjectivity false
set_option maxRecDepth 100000
namespace Mine
open PySem PyProof.Rows
section
variable {G : Gl} {K : Sx} {A : Around} {env : Env} {ρ ρ₁ : List V} {σ σ₀ σ₁ σ₂ : Ow} {F F₀ F₁ F₂ : Fz} {s s₀ s₁ s₂ : Shared} {E : Value → Shared → Prop} {Q : KS} {e c l : PySem.Expr} {es : List PySem.Expr} {ss body : List Stmt} {st : Stmt} {x y z : V} {p q q' ap : Pos} {b : Bool} {xs ys : List V} {f : Str}
theorem asg_tup2 (i j : Nat) {n m : Str} {kk : Nat} (hx : nameOK K i n = true := by decide +kernel) (hy : nameOK K j m = true := by decide +kernel) : Asg G K (.Tuple [.Name n q, .Name m q'] kk p) (.tup [y, z]) ρ ((ρ.set i y).set j z) := by
  rintro A env σ F s E _ R k ⟨a, _, rfl, ⟨n', e⟩, v, _, rfl, r1, w, _, rfl, r2, rfl⟩ h
  refine wpAny_assign_Tuple k.e.rm.handled ⟨_, k.e.rm.sub _ _ e, rfl, n', rfl⟩ rfl rfl fun h₁ hs => ?_
  have hg : ∀ b o, s.heap.get? b = some o → h₁.get? b = some o := fun b o e => hs b o (Nat.ne_of_lt (Heap.lt_size e)) e
  have S : St N0 F s F { s with heap := h₁, toks := s.toks } := .grow k.e.rm.sub hg
  refine wpAny_assignInOrder_more (wpAny_assign_Name (store_ok (k.step S) hx r1 fun h₂ t₂ k₂ L₂ hk₂ => ?_))
  refine wpAny_assignInOrder_more (wpAny_assign_Name (store_ok k₂ hy r2 fun h₃ t₃ k₃ L₃ hk₃ => ?_))
  exact wpAny_pure (h h₃ t₃ k₃ ((S.lk.trans L₂).trans L₃) fun b o hb e => hk₃ b o hb (hk₂ b o hb (hg b o e)))
theorem FOk.newSep {a : Addr} (k : FOk G K A env ρ σ F s) (h : s.heap.get? a = none) {p : Prop} : ¬ Own env a ∧ (p → NoFr A a) := by
  refine ⟨?_, fun _ => k.e.rm.nofr fun o es n e => nomatch h.symm.trans e⟩
  rintro (rfl | ⟨z, hz⟩)
  · obtain ⟨mm, hm, _⟩ := k.e.loc.vars
    exact (Ns_obj hm).elim fun _ e => nomatch h.symm.trans e
  · obtain ⟨⟨ov, oc, h1, _⟩, _⟩ := k.own z a hz
    exact nomatch h.symm.trans h1
theorem FOk.setSep {a : Addr} {c : Oc} (k : FOk G K A env ρ σ F s) (h : ¬ Own env a ∧ (c.rw = true → NoFr A a)) : ∀ b d, σ.put a c b = some d → ¬ Own env b ∧ (d.rw = true → NoFr A b) := fun b d q => by
  by_cases e : b = a
  · subst e; cases (Ow.put_self ..).symm.trans q; exact h
  · exact k.sep b d ((Ow.put_ne _ _ e).symm.trans q)
theorem FOk.fresh (k : FOk G K A env ρ σ F s) (t : Nat) : FOk G K A env ρ (σ.set s.heap.objs.size []) F { s with heap := s.heap.push (lobj [] 0), toks := t } ∧ Lk env σ F s (σ.set s.heap.objs.size []) F { s with heap := s.heap.push (lobj [] 0), toks := t } := by
  have up : ∀ b o, s.heap.get? b = some o → (s.heap.push (lobj [] 0)).get? b = some o := fun b o e => Heap.get?_push_of_some _ e
  have S : St N0 F s F { s with heap := s.heap.push (lobj [] 0), toks := t } := .grow k.e.rm.sub up
  have hF : F s.heap.objs.size = none := by
    cases q : F s.heap.objs.size with
    | none => rfl
    | some o => exact nomatch (size_none s.heap).symm.trans (k.e.rm.sub _ _ q)
  have k' := k.step S
  refine ⟨⟨⟨k'.e.rm, k'.e.sc, k'.e.kind, k'.e.globals, k'.e.builtins, fun a xs q => ?_, k'.e.loc⟩, k'.top, k'.apart, k'.nodup, k'.own, k.setSep (k.newSep (size_none _))⟩, S.any, fun b xs q => ?_⟩
  · by_cases h : a = s.heap.objs.size
    · subst h; cases (Ow.set_self ..).symm.trans q; exact ⟨hF, _, Heap.get?_push_size _ rfl, [], 0, rfl, rfl⟩
    · exact k'.e.own a xs ((Ow.set_ne _ _ h).symm.trans q)
  · by_cases h : b = s.heap.objs.size
    · exact .inr (h ▸ size_none _)
    · exact .inl ⟨xs, (Ow.set_ne _ _ h).symm.trans q, id⟩
theorem FOk.sizeσ (k : FOk G K A env ρ σ F s) : σ s.heap.objs.size = none := by
  cases q : σ s.heap.objs.size with
  | none => rfl
  | some xs => exact (k.e.own _ xs q).2.elim fun _ q => nomatch (size_none s.heap).symm.trans q.1
theorem ws_new (i : Nat) {n : Str} (h : ∀ a, σ a = none → WS G K ss (ρ.set i (.ref a)) (σ.set a []) Q) (hx : nameOK K i n = true := by decide +kernel) : WS G K (.Assign [.Name n q] (.List [] q') p :: ss) ρ σ Q :=
  ws_cons fun A env F s E k => wpAny_Assign_Name (List_ (Calls.spliced_nil (wpAny_newObj_type (store_ok (x := .ref s.heap.objs.size) (k.fresh s.toks).1 hx rfl fun h' t k₂ L _ => ⟨.next, _, _, F, trivial, k₂, (k.fresh s.toks).2.trans L, h _ k.sizeσ⟩) (Nat.zero_le _)))) rfl
theorem FOk.put {a : Addr} {h' : Heap} {t n : Nat} {vs : List Value} (k : FOk G K A env ρ σ F s) (ha : σ a = some (.lst xs)) (hs : Heap.ExtBut a s.heap h') (hv : h'.get? a = some (lobj vs n)) (r : RelL F ys vs) :
    FOk G K A env ρ (σ.set a ys) F { s with heap := h', toks := t } ∧ Lk env σ F s (σ.set a ys) F { s with heap := h', toks := t } := by
  obtain ⟨hF, us, m, hu, _⟩ := k.e.lst a xs ha
  refine ⟨k.other hF hs (k.notOwn hu (fun _ _ e => nomatch e) fun _ e => nomatch e) (k.e.rm.nofr fun o es n e h => by cases hu.symm.trans e; cases h) (fun b zs q => ?_) (k.setSep ((k.sep a _ ha).imp id fun h _ => h rfl)), St.change k.e.rm.sub hF (.inl (.inr ⟨_, ha, rfl⟩)) hs ⟨_, hv, fun o e es n h => by cases hu.symm.trans e; cases h⟩, fun b zs q => ?_⟩
  · by_cases h : b = a
    · subst h; cases (Ow.set_self ..).symm.trans q; exact ⟨hF, _, hv, vs, n, rfl, r⟩
    · exact (k.e.own b zs ((Ow.set_ne _ _ h).symm.trans q)).imp id fun q => q.imp fun _ q => ⟨hs b _ h q.1, q.2⟩
  · by_cases h : b = a
    · exact .inl ⟨_, h ▸ ha, fun _ => rfl⟩
    · exact .inl ⟨zs, (Ow.set_ne _ _ h).symm.trans q, id⟩
theorem append_ok {a : Addr} {v : Value} {R : Value → Shared → Prop} (k : FOk G K A env ρ σ F s) (ha : σ a = some (.lst xs)) (r : Rel F y v) (hl : xs.length ≤ sizeLine)
    (h : ∀ h', FOk G K A env ρ (σ.set a (xs ++ [y])) F { s with heap := h' } → Lk env σ F s (σ.set a (xs ++ [y])) F { s with heap := h' } → R .none { s with heap := h' }) : wpAny G.M A (call (.builtin "list.append") [.ref a, v]) R E s := by
  obtain ⟨hF, vs, n, hv, rl⟩ := k.e.lst a xs ha
  refine wpAny_list_append_plain ⟨n, hv⟩ (fun h' hp hs => ?_) (by rw [List.size_toArray, rl.length]; exact hl)
  obtain ⟨n', hp⟩ := hp
  have hp' : h'.get? a = some (lobj (vs ++ [v]) n') := by rw [hp]; simp [lobj]
  exact h h' (k.put (t := s.toks) ha hs.extBut hp' (rl.append (.one r))).1 (k.put (t := s.toks) ha hs.extBut hp' (rl.append (.one r))).2
theorem get_append {a : Addr} {F : Fz} {s : Shared} {v : Value} {pl : Sem Bool} {R : Value × List Value → Shared → Prop} (ha : σ a = some (.lst xs)) (k : EOk G K A env ρ σ F s) (r : Rel F (.ref a) v) (h : R (.builtin "list.append", [v]) s) : wpAny G.M A (getMethod v "append" pl) R E s := by
  cases show v = .ref a from r
  obtain ⟨_, vs, n, hv, _⟩ := k.lst a xs ha
  exact Calls.getMethod_list_append hv rfl rfl h
theorem ws_append {a : Addr} (h1 : Ev G K ρ σ l (.ref a)) (ha : σ a = some (.lst xs)) (h2 : Ev G K ρ σ e y) (hl : xs.length ≤ sizeLine) (h : WS G K ss ρ (σ.set a (xs ++ [y])) Q) (hn : ∀ n env t, attributeBase l n env t = t := by intros; rfl) (hp : (ap.endLine == q.line) = true := by rfl) (hs : notStar e = true := by rfl) :
    WS G K (.Expr (.Call (.Attribute l "append" ap) [e] [] q) p :: ss) ρ σ Q :=
  ws_cons fun A env F s E k => wpAny_Expr_any (meth_ok (id := "list.append") h1 hn hp (by rw [List.all_cons, hs]; rfl) (Nat.lt_of_sub_eq_succ rfl) (evl_cons h2 evl_nil) k.e (fun F s v pl Q k => get_append ha k)
    (by rintro v _ F₁ s₁ S k₁ r ⟨w, _, rfl, r2, rfl⟩
        cases show v = .ref a from r
        exact append_ok (k.step S) ha r2 hl fun h' k₂ L => ⟨.next, ρ, _, F₁, trivial, k₂, S.lk.trans L, h⟩)) (by unfold interactive; rw [k.e.kind]; rfl) rfl
theorem ws_append_new {a : Addr} {p₁ p₂ : Pos} {m : Nat} (h1 : Ev G K ρ σ l (.ref a)) (ha : σ a = some (.lst xs)) (h2 : Ev G K ρ σ e y) (hl : xs.length ≤ sizeLine) (h : ∀ b, σ b = none → b ≠ a → WS G K ss ρ ((σ.set b []).set a (xs ++ [.tup [y, .ref b]])) Q) (hn : ∀ n env t, attributeBase l n env t = t := by intros; rfl) (hp : (ap.endLine == q.line) = true := by rfl) (hs : notStar e = true := by rfl) :
    WS G K (.Expr (.Call (.Attribute l "append" ap) [.Tuple [e, .List [] p₁] m p₂] [] q) p :: ss) ρ σ Q :=
  ws_cons fun A env F s E k => wpAny_Expr_any (meth_gen (id := "list.append") h1 hn hp rfl (Nat.lt_of_sub_eq_succ rfl) k.e (fun F s v pl Q k => get_append ha k)
    (fun v F₁ s₁ S k₁ r => by
      cases show v = .ref a from r
      refine Calls.spliced_cons (Tuple_ ?_)
      rw [back_star p₂ env (es := [e, .List [] p₁]) (by rw [List.all_cons, hs]; rfl)]
      refine Calls.spliced_cons (h2.bind k₁ fun w F₂ s₂ S₂ r₂ k₂ => Calls.spliced_cons (List_ (Calls.spliced_nil (wpAny_newObj_type (Calls.spliced_nil ?_) (Nat.zero_le _)))))
      have kf := (k.step S).step S₂
      obtain ⟨k₃, L₃⟩ := kf.fresh s₂.toks
      have hb := kf.sizeσ
      have hba : s₂.heap.objs.size ≠ a := by rintro e; rw [e, ha] at hb; cases hb
      refine wpAny_mono (newTuple_ok (xs := [y, .ref s₂.heap.objs.size]) k₃.e.rm ⟨w, _, rfl, r₂, _, _, rfl, rfl, rfl⟩ (by show 2 ≤ sizeLine; decide)) (fun u s₄ q => q.casesOn fun F₄ S₄ r₄ => Calls.spliced_nil ?_) fun _ _ e => e
      exact append_ok (k₃.step S₄) ((Ow.set_ne _ _ hba.symm).trans ha) r₄ hl fun h' k₅ L₅ => ⟨.next, ρ, _, F₄, trivial, k₅, (((S.trans S₂).lk.trans L₃).trans S₄.lk).trans L₅, h _ hb hba⟩)) (by unfold interactive; rw [k.e.kind]; rfl) rfl
structure Proc (G : Gl) (f : Str) (xs : List V) (a : Addr) (acc acc' : List V) : Prop where
  is : ∃ o fd, G.mg f = some (.ref (G.fn f)) ∧ G.B.get? (G.fn f) = some o ∧ o.data = .func fd
  run : ∀ A F s E vs us n, Rm G A F s → RelL F xs vs → F a = none → s.heap.get? a = some (lobj us n) → RelL F acc us →
    wpAny G.M A (call (.ref (G.fn f)) vs) (fun _ s' => ∃ F' us' n', St (· = a) F s F' s' ∧ s'.heap.get? a = some (lobj us' n') ∧ RelL F' acc' us') E s
theorem ws_proc {a : Addr} {acc acc' : List V} (h : Proc G f xs a acc acc') (ha : EvL G K ρ σ es xs) (hσ : σ a = some (.lst acc)) (h2 : WS G K ss ρ (σ.set a acc') Q) (hs : es.all notStar = true := by rfl) (hg : globOK K f = true := by decide +kernel) :
    WS G K (.Expr (.Call (.Name f q) es [] q') p :: ss) ρ σ Q :=
  ws_cons fun A env F s E k => wpAny_Expr_any (by
    obtain ⟨o, fd, hf, ho, hfd⟩ := h.is
    refine wpAny_Call_NameR (name_global k.e (.inl hf) hg ?_)
    rw [back_star q' env hs]
    refine Calls.callWith_function (evalArgs_list (all_false es env) (ha.bind k.e fun vs F₁ s₁ S₁ r₁ k₁ => ⟨⟨k₁.rm.in _ _ ho, hfd⟩, ?_⟩))
    obtain ⟨hF, us, n, hu, ru⟩ := k₁.lst a acc hσ
    refine wpAny_mono (h.run A F₁ s₁ E vs us n k₁.rm r₁ hF hu ru) (fun _ s₂ q => ?_) fun _ _ e => e
    obtain ⟨F₂, us', n', S₂, hu', ru'⟩ := q
    have k₁' := k.step S₁
    -- first the list alone, in the heap of the end; then the rest, which only grows
    have own : ¬ Own env a := k₁'.notOwn hu (fun _ _ e => nomatch e) fun _ e => nomatch e
    have upO : ∀ b o, b ≠ a → s₁.heap.get? b = some o → ∃ o', s₂.heap.get? b = some o' ∧ KeepO o o' := fun b o hb e => S₂.keepO b o e hb
    have up : ∀ b o, b ≠ a → s₁.heap.get? b = some o → (∀ es n, o.data ≠ .dict es n) → s₂.heap.get? b = some o := fun b o hb e hd => S₂.keep b o e hb hd
    have k₃ : FOk G K A env ρ (σ.set a acc') F₂ s₂ := ⟨⟨k₁.rm.step S₂, k₁.sc, k₁.kind, k₁.globals, k₁.builtins, fun b zs q => ?_,
      ⟨k₁.loc.len, k₁.loc.vars.elim fun _ q => (Ns_obj q.1).elim fun _ e => S₂.out k₁.loc.out e, k₁.loc.vars.imp fun m r => ⟨ns_keepO r.1 fun o e => upO _ o (fun e => own (.inl e.symm)) e, fun i x v hx hv => ⟨fun hk => ((r.2 i x v hx hv).1 hk).mono S₂.up, fun hk => ((r.2 i x v hx hv).2 hk).imp fun c u => u.imp fun ov u =>
        ⟨u.1, u.2.1.imp fun oc w => ⟨up _ _ (by rintro rfl; exact own (.inr ⟨x, mem_of_lookup u.1⟩)) w.1 (fun _ _ e => nomatch w.2.symm.trans e), w.2⟩, u.2.2.1.mono S₂.up, u.2.1.elim fun _ w => S₂.out u.2.2.2 w.1⟩⟩⟩⟩⟩,
      k.top, k.apart, k.nodup, fun x c hc => (k₁'.own x c hc).elim fun h1 h2 => ⟨h1.imp fun _ h => h.imp fun _ h => ⟨up _ _ (by rintro rfl; exact own (.inr ⟨x, hc⟩)) h.1 (fun _ _ e => nomatch h.2.symm.trans e), h.2⟩, h1.elim fun _ h => h.elim fun _ h => S₂.out h2 h.1⟩, k.setSep ((k.sep a _ hσ).imp id fun h _ => h rfl)⟩
    · refine ⟨.next, ρ, _, F₂, trivial, k₃, S₁.lk.trans ⟨S₂.weaken fun b o _ q => .inr ⟨_, q ▸ hσ, rfl⟩, fun b zs q => ?_⟩, h2⟩
      by_cases hb : b = a
      · exact .inl ⟨_, hb ▸ hσ, fun _ => rfl⟩
      · exact .inl ⟨zs, (Ow.set_ne _ _ hb).symm.trans q, id⟩
    · by_cases hb : b = a
      · subst hb; cases (Ow.set_self ..).symm.trans q; exact ⟨S₂.out hF hu, _, hu', us', n', rfl, ru'⟩
      · exact (k₁.own b zs ((Ow.set_ne _ _ hb).symm.trans q)).elim fun h1 h2 => h2.elim fun o h2 => ⟨S₂.out h1 h2.1, (upO b o hb h2.1).imp fun _ t => ⟨t.1, (h2.2.keep t.2).mono S₂.up⟩⟩) (by unfold interactive; rw [k.e.kind]; rfl) rfl
end
end Mine

set_option autoImplicit false
set_option linter.all false
set_option genSizeOf false
set_option genInjectivity false
set_option maxRecDepth 100000
namespace Mine
open PySem PyProof.Rows
mutual
inductive Res (σ : Ow) : V → V → Prop
  | id (x : V) : Res σ x x
  | own {a : Addr} {xs ys : List V} : σ a = some (.lst xs) → ResL σ xs ys → Res σ (.ref a) (.lst ys)
  | tup {xs ys : List V} : ResL σ xs ys → Res σ (.tup xs) (.tup ys)
inductive ResL (σ : Ow) : List V → List V → Prop
  | nil : ResL σ [] []
  | cons {x y : V} {xs ys : List V} : Res σ x y → ResL σ xs ys → ResL σ (x :: xs) (y :: ys)
end
theorem ResL.same {σ : Ow} : ∀ xs : List V, ResL σ xs xs
  | [] => .nil
  | x :: xs => .cons (.id x) (ResL.same xs)
theorem Res.frz {σ : Ow} {a : Addr} {xs : List V} (h : σ a = some (.lst xs)) : Res σ (.ref a) (.lst xs) := .own h (.same xs)
section
variable {σ : Ow} {F F' : Fz}
mutual
theorem Res.rel (up : ∀ a o, F a = some o → F' a = some o) (ho : ∀ a xs, σ a = some (.lst xs) → ∃ vs n, F' a = some (lobj vs n) ∧ RelL F xs vs) : ∀ {x y : V} {v : Value}, Res σ x y → Rel F x v → Rel F' y v
  | _, _, _, .id _, r => r.mono up
  | _, _, _, .own h q, r => (ho _ _ h).elim fun vs t => t.elim fun n t => ⟨_, vs, r, ⟨n, t.1⟩, ResL.rel up ho q t.2⟩
  | _, _, _, .tup q, r => r.imp fun _ r => r.imp fun _ r => ⟨r.1, r.2.1.imp fun _ => up _ _, ResL.rel up ho q r.2.2⟩
theorem ResL.rel (up : ∀ a o, F a = some o → F' a = some o) (ho : ∀ a xs, σ a = some (.lst xs) → ∃ vs n, F' a = some (lobj vs n) ∧ RelL F xs vs) : ∀ {xs ys : List V} {vs : List Value}, ResL σ xs ys → RelL F xs vs → RelL F' ys vs
  | _, _, _, .nil, r => r
  | _, _, _, .cons a b, r => r.imp fun _ r => r.imp fun _ r => ⟨r.1, Res.rel up ho a r.2.1, ResL.rel up ho b r.2.2⟩
end
end
def retP (P : V → Prop) : KS := fun fl _ σ => match fl with | .ret x => ∃ z, Res σ x z ∧ P z | .next => P .none
structure PureP (G : Gl) (f : Str) (xs : List V) (P : V → Prop) : Prop where
  is : ∃ o fd, G.mg f = some (.ref (G.fn f)) ∧ G.B.get? (G.fn f) = some o ∧ o.data = .func fd
  run : ∀ A F s E vs, Rm G A F s → RelL F xs vs → wpAny G.M A (call (.ref (G.fn f)) vs) (fun v s' => ∃ z, P z ∧ PV F s z v s') E s
def retQ (z : V) : KS := fun fl _ σ => match fl with | .ret x => Res σ x z | .next => z = .none
def procQ (a : Addr) (acc : List V) : KS := fun _ _ σ => σ a = some (.lst acc)
def σ0 : Ow := fun _ => none
noncomputable def σ1 (a : Addr) (xs : List V) : Ow := σ0.set a xs
def fnChk (K : Sx) (np : Nat) : Bool :=
  !K.sc.isCoroutine && !K.sc.isGenerator && K.sc.kind == .function && (K.ns.all fun x => K.sc.names.lookup x == some .local || K.sc.names.lookup x == some .cell) && decide (((cellsFrom 0 K.sc.names []).map (·.1)).Nodup) && decide K.ns.Nodup && decide (np ≤ K.ns.length)
structure FnO (B : Heap) (fa : Addr) (K : Sx) (np : Nat) (sts : List Stmt) : Prop where
  obj : ∃ o fd, B.get? fa = some o ∧ o.data = .func fd ∧ B.CodeRec fd.code fd.qualname ∧ fd.body = .stmts sts ∧ fd.closure = [] ∧ fd.globals = mainGlobals ∧ fd.builtins = builtinsNs ∧
    (∀ vs : List Value, vs.length = np → bindArgs fd ⟨vs, []⟩ = pure ((K.ns.take np).zip vs)) ∧ fd.scope = K.sc
  chk : fnChk K np = true
structure FnAt (B : Heap) (mg : Str → Option Value) (f : Str) (K : Sx) (np : Nat) (sts : List Stmt) : Prop where
  obj : ∃ o fd, mg f = some (.ref (fnA mg f)) ∧ B.get? (fnA mg f) = some o ∧ o.data = .func fd ∧ B.CodeRec fd.code fd.qualname ∧ fd.body = .stmts sts ∧ fd.closure = [] ∧ fd.globals = mainGlobals ∧ fd.builtins = builtinsNs ∧
    (∀ vs : List Value, vs.length = np → bindArgs fd ⟨vs, []⟩ = pure ((K.ns.take np).zip vs)) ∧ fd.scope = K.sc
  chk : fnChk K np = true
theorem FnAt.o {B : Heap} {mg : Str → Option Value} {f : Str} {K : Sx} {np : Nat} {sts : List Stmt} (h : FnAt B mg f K np sts) : FnO B (fnA mg f) K np sts := ⟨h.obj.imp fun _ q => q.imp fun _ q => q.2, h.chk⟩
section
variable {kindOf : Str → Option NameKind}
theorem bindL_miss : ∀ {binds : List (Str × Value)} {m : Str → Option Value} {x : Str}, (∀ y ∈ binds, y.1 ≠ x) → bindL kindOf binds m x = m x
  | [], _, _, _ => rfl
  | (n, v) :: r, m, x, h => by
    unfold bindL
    rw [bindL_miss fun y hy => h y (List.mem_cons_of_mem _ hy)]
    split
    · exact if_neg fun e => h (n, v) (List.mem_cons_self ..) e.symm
    · rfl
theorem bindC_miss : ∀ {binds : List (Str × Value)} {m : Str → Option Value} {x : Str}, (∀ y ∈ binds, y.1 ≠ x) → bindC kindOf binds m x = m x
  | [], _, _, _ => rfl
  | (n, v) :: r, m, x, h => by
    unfold bindC
    rw [bindC_miss fun y hy => h y (List.mem_cons_of_mem _ hy)]
    split
    · rfl
    · exact if_neg fun e => h (n, v) (List.mem_cons_self ..) e.symm
theorem zip_miss {ps : List Str} {vs : List Value} {x : Str} (h : x ∉ ps) : ∀ y ∈ ps.zip vs, y.1 ≠ x := fun y hy e => h (e ▸ (List.of_mem_zip (show (y.1, y.2) ∈ ps.zip vs from hy)).1)
theorem bind_hit : ∀ {ps : List Str} {vs : List Value} {m : Str → Option Value} {i : Nat} {x : Str} {v : Value}, ps.Nodup → ps[i]? = some x → vs[i]? = some v →
    (kindOf x = some .local → bindL kindOf (ps.zip vs) m x = some v) ∧ (kindOf x ≠ some .local → bindC kindOf (ps.zip vs) m x = some v)
  | [], _, _, _, _, _, _, h, _ => nomatch h
  | _ :: _, [], _, _, _, _, _, _, h => nomatch h
  | p :: ps, v :: vs, m, 0, x, w, hn, h1, h2 => by
    cases h1; cases h2
    have hm := zip_miss (vs := vs) (List.nodup_cons.mp hn).1
    refine ⟨fun hk => ?_, fun hk => ?_⟩
    · show bindL kindOf (ps.zip vs) _ p = _
      rw [bindL_miss hm, if_pos hk]; exact if_pos rfl
    · show bindC kindOf (ps.zip vs) _ p = _
      rw [bindC_miss hm, if_neg hk]; exact if_pos rfl
  | p :: ps, v :: vs, m, i + 1, x, w, hn, h1, h2 => ⟨fun hk => (bind_hit (List.nodup_cons.mp hn).2 h1 h2).1 hk, fun hk => (bind_hit (List.nodup_cons.mp hn).2 h1 h2).2 hk⟩
end
theorem cellsFrom_keys : ∀ (names : List (Str × NameKind)) (n k : Nat) (acc acc' : List (Str × Addr)), acc.map (·.1) = acc'.map (·.1) → (cellsFrom n names acc).map (·.1) = (cellsFrom k names acc').map (·.1)
  | [], _, _, _, _, h => h
  | (x, kd) :: r, n, k, acc, acc', h => by
    unfold cellsFrom
    split
    · exact cellsFrom_keys r _ _ _ _ (by simp [h])
    · exact cellsFrom_keys r _ _ _ _ h
theorem lookup_of_mem : ∀ {l : List (Str × Addr)} {x : Str} {c : Addr}, (l.map (·.1)).Nodup → (x, c) ∈ l → l.lookup x = some c
  | (y, d) :: r, x, c, hn, hm => by
    rw [List.map_cons, List.nodup_cons] at hn
    rcases List.mem_cons.mp hm with e | hm'
    · cases e; simp
    · have hne : x ≠ y := by rintro rfl; exact hn.1 (List.mem_map_of_mem (f := (·.1)) hm')
      rw [List.lookup_cons, beq_false_of_ne hne]
      exact lookup_of_mem hn.2 hm'
theorem St.then {D D₁ : Addr → Prop} {F F₁ F₂ : Fz} {s s₁ s₂ : Shared} (x : St N0 F s F₁ s₁) (y : St D₁ F₁ s₁ F₂ s₂) (h : ∀ b o, s.heap.get? b = some o → D₁ b → D b) : St D F s F₂ s₂ :=
  ⟨fun a o e => y.up a o (x.up a o e), y.sub, fun b o e d => (x.keepO b o e id).elim fun o' r => (y.keepO b o' r.1 fun q => d (h b o e q)).imp fun _ t => ⟨t.1, r.2.trans t.2⟩, fun b o e => (x.live b o e).elim fun o' e' => (y.live b o' e'.1).imp fun _ r => ⟨r.1, e'.2.trans r.2⟩, fun b o e => (y.new b o e).elim (x.new b o) fun q => .inr (x.dead q), by rw [y.rest, x.rest]⟩
section
variable {G : Gl} {f : Str} {K : Sx} {np : Nat} {sts : List Stmt} {xs : List V} {σ : Ow} {A : Around} {F : Fz} {s : Shared} {vs : List Value} {R : Result → Shared → Prop} {Q : KS}
theorem enter_core {fa : Addr} (FA : FnO G.B fa K np sts) (hlen : xs.length = np) (hd : 0 < G.d) (k : Rm G A F s) (r : RelL F xs vs) (hσ : ∀ a c, σ a = some c → (F a = none ∧ ∃ o, s.heap.get? a = some o ∧ OcR F o c) ∧ (c.rw = true → NoFr A a))
    (body : ∀ env s₁, FOk G.dn K (A.deeper env) env (xs ++ List.replicate (K.ns.length - np) .unb) σ F s₁ → St N0 F s F s₁ → (∀ b, Own env b → s.heap.get? b = none) → (∀ q o, s.heap.get? q = some o → NoFr A q → NoFr (A.deeper env) q) →
      wpAny G.M (A.deeper env) (execs sts env) (fun f s' => R (.ok (.ret (match f with | .ret v => v | _ => .none))) s') (fun e s' => wpAny G.M (A.deeper env) (leaving env e) (fun _ s'' => R (.error e) s'') (fun e' s'' => R (.error e') s'') s') s₁) :
    codeAny G.M A (.call (.ref fa) ⟨vs, []⟩) R s := by
  obtain ⟨⟨o, fd, ho, hdat, hcd, hbody, hclo, hglob, hblt, hbind, hsc⟩, chk⟩ := FA
  unfold fnChk at chk
  simp only [Bool.and_eq_true, Bool.not_eq_true', beq_iff_eq, decide_eq_true_eq] at chk
  obtain ⟨⟨⟨⟨⟨⟨hco, hgen⟩, hk⟩, hkinds⟩, hcn⟩, hnd⟩, hnp⟩ := chk
  have hvl : vs.length = np := r.length.trans hlen
  have htl : (K.ns.take np).length = np := by rw [List.length_take]; exact Nat.min_eq_left hnp
  have hpn : (K.ns.take np).Nodup := hnd.sublist (List.take_sublist ..)
  have hkind : ∀ x ∈ K.ns, K.sc.names.lookup x = some .local ∨ K.sc.names.lookup x = some .cell := fun x hx => (Bool.or_eq_true_iff.mp (List.all_eq_true.mp hkinds x hx)).imp eq_of_beq eq_of_beq
  have hcs : ∀ n x, K.sc.names.lookup x = some .cell → ((cellsFrom n K.sc.names []).lookup x).isSome = true := fun n x hc => PySem.W.cellsFrom_some _ _ _ (.inl hc)
  rw [← hsc] at hco hgen hk
  refine codeAny_call_cells (by have := k.depth; (exact a9 this hd)) (k.in _ _ ho) hdat (k.go.nolimit.keeps k.in) (hcd.keeps k.in) hbody (hbind vs hvl) hclo (fun x hx => ?_) (fun s₁ x => ?_) hco hgen hk
  · rw [hsc]
    exact (hkind x.1 (List.mem_of_mem_take (List.of_mem_zip (show (x.1, x.2) ∈ (K.ns.take np).zip vs from hx)).1)).imp id fun q => ⟨q, hcs _ _ q⟩
  obtain ⟨h₁, tk, rfl⟩ := x.toInCall.same
  have S₁ : St N0 F s F { s with heap := h₁, toks := tk } := .grow k.sub x.toInCall.keep
  have out : ∀ {a : Addr}, s.heap.get? a = none → F a = none := fun {a} h => by
    cases q : F a with
    | none => rfl
    | some o => exact nomatch h.symm.trans (k.sub _ _ q)
  have hLn : s.heap.get? (callEnvC fd s.heap.objs.size fa).locals = none := size_none _
  have hCn : ∀ y c, (y, c) ∈ (callEnvC fd s.heap.objs.size fa).cells → s.heap.get? c = none := fun y c hm => by
    cases q : s.heap.get? c with
    | none => rfl
    | some o' => exact absurd (Heap.lt_size q) (Nat.not_lt.mpr (Nat.le_of_lt (x.above y c hm)))
  have hcn' : ((callEnvC fd s.heap.objs.size fa).cells.map (·.1)).Nodup := by
    show ((cellsFrom (s.heap.objs.size + 1) fd.scope.names []).map (·.1)).Nodup
    rw [hsc, cellsFrom_keys K.sc.names (s.heap.objs.size + 1) 0 [] [] rfl]; exact hcn
  have cell : ∀ y, K.sc.names.lookup y = some .cell → ∃ c, (callEnvC fd s.heap.objs.size fa).cells.lookup y = some c := fun y hc => by
    show ∃ c, (cellsFrom (s.heap.objs.size + 1) fd.scope.names []).lookup y = some c
    rw [hsc]; exact Option.isSome_iff_exists.mp (hcs _ y hc)
  have nf : ∀ q o, s.heap.get? q = some o → NoFr A q → NoFr (A.deeper (callEnvC fd s.heap.objs.size fa)) q := fun q oq e hA l hl env' m hq => by
    obtain ⟨l₀, hl₀, _⟩ := k.frames
    cases (Around.frames_deeper hl₀).symm.trans hl
    rcases List.mem_cons.mp m with rfl | m
    · cases show some (callEnvC fd s.heap.objs.size fa).locals = some q from hq
      exact nomatch hLn.symm.trans e
    · exact hA l₀ hl₀ env' m hq
  have k₁ : FOk G.dn K (A.deeper (callEnvC fd s.heap.objs.size fa)) (callEnvC fd s.heap.objs.size fa) (xs ++ List.replicate (K.ns.length - np) .unb) σ F { s with heap := h₁, toks := tk } := by
    refine ⟨⟨⟨⟨k.go.g, k.go.b, k.go.nolimit, k.go.blt⟩, k.base, S₁.sub, ?_, ?_, k.handled, ?_⟩, hsc, hk, hglob, hblt, fun a xs q => (hσ a xs q).1.imp id fun t => t.imp fun _ t => ⟨x.toInCall.keep _ _ t.1, t.2⟩,
      ⟨by rw [List.length_append, List.length_replicate, hlen]; (exact a25 hnp), out hLn, _, x.toInCall.ns, fun i y v hy hv => ?_⟩⟩, k.frames.imp fun _ q => Around.frames_deeper q.1, x.apart, hnd, fun y c hm => ⟨⟨_, x.cell y c (lookup_of_mem hcn' hm)⟩, out (hCn y c hm)⟩, fun a c q => (hσ a c q).elim fun t hA => t.2.elim fun o t => ⟨fun hb => hb.elim (fun e => nomatch (e ▸ hLn : s.heap.get? a = none).symm.trans t.1) fun u => u.elim fun y hy => (nomatch (hCn y a hy).symm.trans t.1), fun hr => nf a o t.1 (hA hr)⟩⟩
    · have := k.depth; show A.depth + 1 + (G.d - 1) ≤ recursionLimit; (exact a26 this hd)
    · have := k.units; show A.units + 3 + 10 * (G.d - 1) + 100 ≤ cLine; (exact a27 this hd)
    · obtain ⟨l, hl, hfr⟩ := k.frames
      refine ⟨_, Around.frames_deeper hl, fun env' m => (List.mem_cons.mp m).elim (fun e => ?_) fun m => (hfr.step S₁) env' m⟩
      subst e
      exact ⟨by rw [show (callEnvC fd s.heap.objs.size fa).scope.kind = .function from hk]; decide, _, rfl, out hLn, x.toInCall.ns.imp fun o t => t.imp fun es t => t.imp fun n t => ⟨t.1, t.2.1⟩⟩
    · have ek : (callEnvC fd s.heap.objs.size fa).kindOf y = K.sc.names.lookup y := by show fd.scope.names.lookup y = _; rw [hsc]
      by_cases hi : i < np
      · rw [List.getElem?_append_left (by rw [hlen]; exact hi)] at hv
        obtain ⟨w, hw, rw'⟩ := r.get hv
        have hb := bind_hit (kindOf := (callEnvC fd s.heap.objs.size fa).kindOf) (m := fun _ => none) hpn (by rw [List.getElem?_take, if_pos hi]; exact hy) hw
        refine ⟨fun hl => ?_, fun hc => (cell y hc).imp fun c hcc => ⟨some w, hcc, ?_, relO_some rw', out (hCn y c (mem_of_lookup hcc))⟩⟩
        · rw [hb.1 (ek.trans hl)]; exact relO_some rw'
        · rw [← hb.2 (by rw [ek, hc]; decide)]; exact x.cell y c hcc
      · rw [List.getElem?_append_right (by rw [hlen]; (exact a29 hi))] at hv
        obtain ⟨_, hv⟩ := List.getElem?_eq_some_iff.mp hv
        rw [List.getElem_replicate] at hv
        subst hv
        exact ⟨fun _ h => absurd rfl h, fun hc => (cell y hc).imp fun c hcc => ⟨_, hcc, x.cell y c hcc, fun h => absurd rfl h, out (hCn y c (mem_of_lookup hcc))⟩⟩
  exact body _ _ k₁ S₁ (fun b hb => hb.elim (fun e => e ▸ hLn) fun q => q.elim fun y hy => hCn y b hy) nf
theorem enter_ok {fa : Addr} (FA : FnO G.B fa K np sts) (hlen : xs.length = np) (hd : 0 < G.d) (h : WS G.dn K sts (xs ++ List.replicate (K.ns.length - np) .unb) σ Q) (k : Rm G A F s) (r : RelL F xs vs) (hσ : ∀ a c, σ a = some c → (F a = none ∧ ∃ o, s.heap.get? a = some o ∧ OcR F o c) ∧ (c.rw = true → NoFr A a))
    (fin : ∀ fl v σ' F' s', FlRel F' (.ret v) fl ∨ (fl = .next ∧ v = .none) → (∀ a c, σ' a = some c → F' a = none ∧ ∃ o, s'.heap.get? a = some o ∧ OcR F' o c) → St (fun a => ∃ c, σ a = some c ∧ c.rw = true) F s F' s' → (∀ b c, σ' b = some c → (∃ c', σ b = some c' ∧ (c.rw = true → c'.rw = true)) ∨ s.heap.get? b = none) → (∃ ρ, Q fl ρ σ') → R (.ok (.ret v)) s') :
    codeAny G.M A (.call (.ref fa) ⟨vs, []⟩) R s := by
  refine enter_core FA hlen hd k r hσ fun env s₁ k₁ S₁ hown _ => wpAny_mono (h _ _ _ _ _ k₁) (fun f' s' hp => hp.casesOn fun fl ρ' σ' F' hf k' L q => ?_) fun _ _ e => e
  have S : St (fun a => ∃ c, σ a = some c ∧ c.rw = true) F s F' s' := S₁.then L.S fun b o e q => q.elim (fun q => nomatch e.symm.trans (hown b q)) id
  cases f' <;> cases fl <;> first | exact hf.elim | skip
  · exact fin .next .none σ' F' s' (.inr ⟨rfl, rfl⟩) k'.e.own S (fun b xs q => (L.d b xs q).imp id S₁.dead) ⟨ρ', q⟩
  · exact fin _ _ σ' F' s' (.inl hf) k'.e.own S (fun b xs q => (L.d b xs q).imp id S₁.dead) ⟨ρ', q⟩
theorem dl {G : Gl} {a b : Nat} (h : b ≤ G.d) (hab : a + 1 ≤ b := by decide) : a ≤ G.dn.d := Nat.le_sub_of_add_le (Nat.le_trans hab h)
theorem pureO_ro {fa : Addr} (FA : FnO G.B fa K np sts) {P : V → Prop} (hlen : xs.length = np) (hd : 0 < G.d) (hro : ∀ a c, σ a = some c → c.rw = false) (h : WS G.dn K sts (xs ++ List.replicate (K.ns.length - np) .unb) σ (retP P)) {A : Around} {F : Fz} {s : Shared} {E : Value → Shared → Prop} {vs : List Value} (k : Rm G A F s) (r : RelL F xs vs) (hσ : ∀ a c, σ a = some c → F a = none ∧ ∃ o, s.heap.get? a = some o ∧ OcR F o c) : wpAny G.M A (call (.ref fa) vs) (fun v s' => ∃ z, P z ∧ PV F s z v s') E s :=
  wpAny_call (enter_ok FA hlen hd h k r (fun a c q => ⟨hσ a c q, fun hr => by rw [hro a c q] at hr; cases hr⟩) fun fl v σ' F' s' hf own S d q => by
    classical
    let F₂ : Fz := fun b => match F' b with | some o => some o | none => if ∃ xs, σ' b = some (Oc.lst xs) then s'.heap.get? b else none
    have up : ∀ a o, F' a = some o → F₂ a = some o := fun a o e => by show (match F' a with | some o => some o | none => _) = _; rw [e]
    have at_ : ∀ a xs, σ' a = some (.lst xs) → F₂ a = s'.heap.get? a := fun a xs q => by
      show (match F' a with | some o => some o | none => _) = _
      rw [(own a _ q).1]; exact if_pos ⟨xs, q⟩
    have back : ∀ a o, F₂ a = some o → F' a = some o ∨ ((∃ xs, σ' a = some (Oc.lst xs)) ∧ s'.heap.get? a = some o) := fun a o e => by
      revert e
      show (match F' a with | some o => some o | none => if ∃ xs, σ' a = some (Oc.lst xs) then s'.heap.get? a else none) = _ → _
      cases F' a with
      | some o' => exact fun e => .inl e
      | none => exact fun e => (Classical.em (∃ xs, σ' a = some (Oc.lst xs))).elim (fun h => .inr ⟨h, (if_pos h).symm.trans e⟩) fun h => nomatch (if_neg h).symm.trans e
    have S₂ : St N0 F s F₂ s' := ⟨fun a o e => up a o (S.up a o e), fun a o e => (back a o e).elim (S.sub a o) (·.2), fun b o e _ => S.keepO b o e fun q => q.elim fun c q => (nomatch (hro b c q.1).symm.trans q.2), S.live,
      fun b o e => (back b o e).elim (S.new b o) fun q => q.1.elim fun xs q => (d b _ q).elim (fun q => q.elim fun c q => (nomatch (hro b c q.1).symm.trans (q.2 rfl))) .inr, S.rest⟩
    obtain ⟨ρ, q⟩ := q
    rcases hf with hf | ⟨rfl, rfl⟩
    · cases fl with
      | next => exact hf.elim
      | ret x => exact q.imp fun z q => ⟨q.2, F₂, S₂, Res.rel up (fun a xs q => (own a _ q).2.elim fun o t => by obtain ⟨h1, vs, n, rfl, rl⟩ := t; exact ⟨vs, n, (at_ a _ q).trans h1, rl⟩) q.1 hf⟩
    · exact ⟨.none, q, F₂, S₂, rfl⟩)
theorem pureO_of {fa : Addr} (FA : FnO G.B fa K np sts) {P : V → Prop} (hlen : xs.length = np) (hd : 0 < G.d) (h : WS G.dn K sts (xs ++ List.replicate (K.ns.length - np) .unb) σ0 (retP P)) : ∀ A F s E vs, Rm G A F s → RelL F xs vs → wpAny G.M A (call (.ref fa) vs) (fun v s' => ∃ z, P z ∧ PV F s z v s') E s := fun A F s E vs k r =>
  pureO_ro (σ := σ0) FA hlen hd (fun a c q => by cases q) h k r fun a c q => by cases q
theorem purep_of (FA : FnAt G.B G.mg f K np sts) {P : V → Prop} (hlen : xs.length = np) (hd : 0 < G.d) (h : WS G.dn K sts (xs ++ List.replicate (K.ns.length - np) .unb) σ0 (retP P)) : PureP G f xs P :=
  ⟨FA.obj.imp fun _ q => q.imp fun _ q => ⟨q.1, q.2.1, q.2.2.1⟩, pureO_of FA.o hlen hd h⟩
theorem pure_of (FA : FnAt G.B G.mg f K np sts) {z : V} (hlen : xs.length = np) (hd : 0 < G.d) (h : WS G.dn K sts (xs ++ List.replicate (K.ns.length - np) .unb) σ0 (retQ z)) : Pure G f xs z :=
  have := purep_of (P := (· = z)) FA hlen hd (ws_mono h fun fl ρ σ q => by cases fl; exact q.symm; exact ⟨z, q, rfl⟩)
  ⟨this.is, fun A F s E vs k r => wpAny_mono (this.run A F s E vs k r) (fun _ _ q => q.elim fun _ q => q.1 ▸ q.2) fun _ _ e => e⟩
theorem proc_of (FA : FnAt G.B G.mg f K np sts) {a : Addr} {acc acc' : List V} (hlen : xs.length = np) (hd : 0 < G.d) (h : WS G.dn K sts (xs ++ List.replicate (K.ns.length - np) .unb) (σ1 a acc) (procQ a acc')) : Proc G f xs a acc acc' :=
  ⟨FA.obj.imp fun _ q => q.imp fun _ q => ⟨q.1, q.2.1, q.2.2.1⟩, fun A F s E vs us n k r hF hu ru => wpAny_call (enter_ok FA.o hlen hd h k r (fun b ys q => by
      by_cases e : b = a
      · subst e; cases (Ow.set_self ..).symm.trans q; exact ⟨⟨hF, _, hu, us, n, rfl, ru⟩, fun _ => k.nofr fun o es n e h => by cases hu.symm.trans e; cases h⟩
      · exact nomatch (Ow.set_ne _ _ e).symm.trans q) fun fl v σ' F' s' hf own S d q => by
    obtain ⟨ρ, q⟩ := q
    obtain ⟨_, o, t, us', n', rfl, u⟩ := own a _ q
    exact ⟨F', us', n', S.weaken fun b o _ q => q.elim fun ys q => Classical.byContradiction fun e => (nomatch (Ow.set_ne _ _ e).symm.trans q.1), t, u⟩)⟩
end
end Mine

set_option autoImplicit false
set_option linter.all false
set_option genSizeOf false
set_option genInjectivity false
set_option maxRecDepth 100000
namespace Mine
open PySem PyProof.Rows
def relabelS (scope sc : Scope) : Scope :=
  { scope with names := scope.names.map fun (n, k) => if (k == .free && sc.kind == .function && sc.names.lookup n == some .cell) then (n, .cell) else (n, k) }
def nm (K : Sx) (i : Nat) : Str := K.ns.getD i Str.empty
def compChk (K : Sx) (caps : List Nat) (ys : List Str) (scope : Scope) : Bool :=
  scope.kind == .function && scope.names.all (fun x => x.2 != .cell) && scope.names.all (fun x => x.2 != .local || scope.names.lookup x.1 == some .local) && (ys.all fun y => scope.names.lookup y == some .local) &&
  caps.all (fun i => decide (i < K.ns.length) && (relabelS scope K.sc).names.lookup (nm K i) == some .cell) && scope.names.all (fun x => x.2 != .free || (K.sc.names.lookup x.1 == some .cell && K.ns.contains x.1))
def Sx.comp (K : Sx) (caps : List Nat) (ys : List Str) (scope : Scope) : Sx := ⟨relabelS scope K.sc, caps.map (nm K) ++ ys⟩
def ρc (ρ : List V) (caps : List Nat) (xs : List V) : List V := caps.map (fun i => ρ.getD i .unb) ++ xs
structure CompOk (K : Sx) (caps : List Nat) (ys : List Str) (scope : Scope) : Prop where
  kind : scope.kind = .function
  nocell : ∀ x ∈ scope.names, x.2 ≠ .cell
  locals : ∀ x ∈ scope.names, x.2 = .local → scope.names.lookup x.1 = some .local
  tgt : ∀ y ∈ ys, scope.names.lookup y = some .local
  caps : ∀ i ∈ caps, i < K.ns.length ∧ (relabelS scope K.sc).names.lookup (nm K i) = some .cell
  free : ∀ x ∈ scope.names, x.2 = .free → K.sc.names.lookup x.1 = some .cell ∧ x.1 ∈ K.ns
theorem compOk_of {K : Sx} {caps : List Nat} {ys : List Str} {scope : Scope} (h : compChk K caps ys scope = true) : CompOk K caps ys scope := by
  unfold compChk at h
  simp only [Bool.and_eq_true, beq_iff_eq, List.all_eq_true, Bool.or_eq_true, bne_iff_ne, ne_eq, decide_eq_true_eq, List.contains_iff_mem] at h
  obtain ⟨⟨⟨⟨⟨h1, h2⟩, h3⟩, h4⟩, h5⟩, h6⟩ := h
  exact ⟨h1, h2, fun x hx e => (h3 x hx).elim (fun q => absurd e q) id, h4, h5, fun x hx e => (h6 x hx).elim (fun q => absurd e q) id⟩
def closL (env : Env) : List (Str × NameKind) → List (Str × Addr) → List (Str × Addr)
  | [], acc => acc
  | (n, k) :: r, acc => if k == .free then closL env r ((n, (env.cells.lookup n).getD 0) :: acc) else closL env r acc
theorem closure_eq {env : Env} {scope : Scope} (h : ∀ x ∈ scope.names, x.2 = .free → ∃ c, env.cells.lookup x.1 = some c) : closureFor scope env = pure (closL env scope.names []) := by
  have key : ∀ (l : List (Str × NameKind)) (acc : List (Str × Addr)), (∀ x ∈ l, x.2 = .free → ∃ c, env.cells.lookup x.1 = some c) →
      (forIn l acc fun (x : Str × NameKind) (r : List (Str × Addr)) => (if (x.2 == .free) = true then do let a ← cellOf env x.1; pure (ForInStep.yield ((x.1, a) :: r)) else pure (ForInStep.yield r) : Sem (ForInStep (List (Str × Addr))))) = pure (closL env l acc) := by
    intro l
    induction l with
    | nil => intro acc _; rfl
    | cons a l ih =>
      intro acc hl
      obtain ⟨n, k⟩ := a
      rw [List.forIn_cons]
      unfold closL
      by_cases hk : (k == .free) = true
      · obtain ⟨c, hc⟩ := hl (n, k) (List.mem_cons_self ..) (eq_of_beq hk)
        have hc' : env.cells.lookup n = some c := hc
        simp only [hk, if_true, cellOf, hc', pure_bind, Option.getD_some]
        exact ih _ fun x hx => hl x (List.mem_cons_of_mem _ hx)
      · simp only [hk, pure_bind, Bool.false_eq_true, if_false]
        exact ih _ fun x hx => hl x (List.mem_cons_of_mem _ hx)
  have := key scope.names [] h
  unfold closureFor
  have e2 : ∀ (t : Sem (List (Str × Addr))), t = pure (closL env scope.names []) → (t >>= fun cs => (pure cs : Sem (List (Str × Addr)))) = pure (closL env scope.names []) := fun t e => by rw [e]; rfl
  exact e2 _ this
theorem closL_look {env : Env} : ∀ (l : List (Str × NameKind)) (acc : List (Str × Addr)) (n : Str) (c : Addr), env.cells.lookup n = some c → (∀ d, acc.lookup n = some d → d = c) → ((n, NameKind.free) ∈ l ∨ acc.lookup n = some c) → (closL env l acc).lookup n = some c
  | [], acc, n, c, _, _, h => h.elim (fun h => nomatch h) id
  | (y, k) :: r, acc, n, c, hc, ha, h => by
    have rest : (n, NameKind.free) ∈ r ∨ acc.lookup n = some c → (closL env r acc).lookup n = some c := closL_look r acc n c hc ha
    unfold closL
    split
    · rename_i hk
      have hk := eq_of_beq hk
      by_cases hy : n = y
      · subst hy
        have e : (((n, (env.cells.lookup n).getD 0) :: acc).lookup n) = some c := by rw [List.lookup_cons_self, hc]; rfl
        exact closL_look r _ n c hc (fun d hd => Option.some.inj (hd.symm.trans e)) (.inr e)
      · have e : (((y, (env.cells.lookup y).getD 0) :: acc).lookup n) = acc.lookup n := by rw [List.lookup_cons, beq_false_of_ne hy]
        exact closL_look r _ n c hc (fun d hd => ha d (e.symm.trans hd)) (h.imp (fun h => (List.mem_cons.mp h).elim (fun q => absurd (congrArg Prod.fst q) hy) id) fun h => e.trans h)
    · rename_i hk
      exact rest (h.imp (fun h => (List.mem_cons.mp h).elim (fun q => absurd (by cases q; rfl) hk) id) id)
theorem relabel_cell {sc : Scope} : ∀ {names : List (Str × NameKind)} {x : Str}, (∀ y ∈ names, y.2 ≠ .cell) →
    (names.map fun (n, k) => if (k == NameKind.free && sc.kind == .function && sc.names.lookup n == some .cell) then (n, NameKind.cell) else (n, k)).lookup x = some .cell → (x, NameKind.free) ∈ names
  | (n, k) :: r, x, hc, h => by
    rw [List.map_cons] at h
    by_cases hk : (k == NameKind.free && sc.kind == .function && sc.names.lookup n == some .cell) = true
    · simp only [hk, if_true, List.lookup_cons] at h
      split at h
      · rename_i e
        cases eq_of_beq e
        rw [eq_of_beq (Bool.and_eq_true_iff.mp (Bool.and_eq_true_iff.mp hk).1).1]
        exact List.mem_cons_self ..
      · exact List.mem_cons_of_mem _ (relabel_cell (fun y hy => hc y (List.mem_cons_of_mem _ hy)) h)
    · simp only [hk, Bool.false_eq_true, if_false, List.lookup_cons] at h
      split at h
      · cases h; exact absurd rfl (hc (n, .cell) (List.mem_cons_self ..))
      · exact List.mem_cons_of_mem _ (relabel_cell (fun y hy => hc y (List.mem_cons_of_mem _ hy)) h)
theorem St.priv {D : Addr → Prop} {F₀ F : Fz} {s₀ s : Shared} {r : Addr} {h' : Heap} {t : Nat} (S : St D F₀ s₀ F s) (hq : F r = none) (h0 : s₀.heap.get? r = none) (hs : Heap.ExtBut r s.heap h') : St D F₀ s₀ F { s with heap := h', toks := t } :=
  have ne : ∀ b o, s₀.heap.get? b = some o → b ≠ r := fun b o e => by rintro rfl; exact nomatch h0.symm.trans e
  ⟨S.up, fun a o e => hs a o (by rintro rfl; exact nomatch hq.symm.trans e) (S.sub a o e), fun b o e d => (S.keepO b o e d).imp fun o' q => ⟨hs b o' (ne b o e) q.1, q.2⟩, fun b o e => (S.live b o e).imp fun o' e' => ⟨hs b o' (ne b o e) e'.1, e'.2⟩, S.new, by rw [S.rest]⟩
theorem Rm.out {G : Gl} {A : Around} {F : Fz} {s : Shared} (R : Rm G A F s) {a : Addr} (h : s.heap.get? a = none) : F a = none := by
  cases q : F a with
  | none => rfl
  | some o => exact nomatch h.symm.trans (R.sub _ _ q)
section
variable {G : Gl} {K : Sx} {A : Around} {env : Env} {ρ : List V} {σ : Ow} {F : Fz} {s : Shared} {E : Value → Shared → Prop} {caps : List Nat} {y : Str} {scope : Scope} {e' it₀ : PySem.Expr} {py p q : Pos} {ifs : List PySem.Expr} {x : V} {xs : List V}
theorem comp_cell {ys : List Str} (O : CompOk K caps ys scope) (k : EOk G K A env ρ σ F s) {z : Str} (hz : (z, NameKind.free) ∈ scope.names) : ∃ (i : Nat) (v : V) (c : Addr) (ov : Option Value), K.ns[i]? = some z ∧ ρ[i]? = some v ∧ env.cells.lookup z = some c ∧ s.heap.IsCell c ov ∧ RelO F v ov ∧ F c = none := by
  obtain ⟨h1, h2⟩ := O.free _ hz rfl
  obtain ⟨mm, _, vars⟩ := k.loc.vars
  obtain ⟨i, hi, e⟩ := List.getElem_of_mem h2
  have hi' : K.ns[i]? = some z := by rw [List.getElem?_eq_getElem hi, e]
  have hl : i < ρ.length := by rw [k.loc.len]; exact hi
  obtain ⟨c, ov, g⟩ := (vars i z _ hi' (List.getElem?_eq_getElem hl)).2 h1
  exact ⟨i, _, c, ov, hi', List.getElem?_eq_getElem hl, g⟩
theorem comp_env {C : Addr} {mC : Str → Option Value} {ys : List Str} {xs : List V} (O : CompOk K caps ys scope) (k : EOk G K A env ρ σ F s) (hn : s.heap.Ns C mC) (hF : F C = none) (hlen : xs.length = ys.length) (hv : ∀ (j : Nat) y x, ys[j]? = some y → xs[j]? = some x → ∃ v, mC y = some v ∧ Rel F x v) :
    EOk G (K.comp caps ys scope) A (compEnvC scope (closL env scope.names []) C env) (ρc ρ caps xs) σ F s := by
  have hrel : relabel scope env = relabelS scope K.sc := by unfold relabel relabelS; rw [← k.sc]; rfl
  refine ⟨k.rm, hrel, by show (relabel scope env).kind = _; exact O.kind, k.globals, k.builtins, k.own, ⟨by simp [ρc, Sx.comp, hlen], hF, mC, hn, fun i z w hz hw => ?_⟩⟩
  by_cases hi : i < caps.length
  · unfold ρc at hw
    unfold Sx.comp at hz
    rw [List.getElem?_append_left (by simpa using hi)] at hw
    rw [List.getElem?_append_left (by simpa using hi)] at hz
    rw [List.getElem?_map, List.getElem?_eq_getElem hi] at hz hw
    cases hz; cases hw
    obtain ⟨hc1, hc2⟩ := O.caps _ (List.getElem_mem hi)
    refine ⟨fun hl => (nomatch hc2.symm.trans hl), fun _ => ?_⟩
    have hf := relabel_cell O.nocell hc2
    obtain ⟨j, v', c, ov, h1, h2, h3, h4, h5, h6⟩ := comp_cell O k hf
    refine ⟨c, ov, closL_look _ _ _ c h3 (fun d hd => nomatch hd) (.inl hf), h4, ?_, h6⟩
    have hl : caps[i] < ρ.length := by rw [k.loc.len]; exact hc1
    obtain ⟨mm, _, vars⟩ := k.loc.vars
    have hnm : K.ns[caps[i]]? = some (nm K caps[i]) := by unfold nm; rw [List.getD_eq_getElem?_getD, List.getElem?_eq_getElem hc1]; rfl
    obtain ⟨c', ov', q1, q2, q3, _⟩ := (vars caps[i] _ _ hnm (List.getElem?_eq_getElem hl)).2 (O.free _ hf rfl).1
    cases h3.symm.trans q1
    obtain ⟨o1, e1, d1⟩ := h4
    obtain ⟨o2, e2, d2⟩ := q2
    cases e1.symm.trans e2
    cases d1.symm.trans d2
    show RelO F (ρ.getD caps[i] .unb) ov
    rw [List.getD_eq_getElem?_getD, List.getElem?_eq_getElem hl]; exact q3
  · unfold ρc at hw
    unfold Sx.comp at hz
    rw [List.getElem?_append_right (by simpa using hi)] at hw hz
    rw [List.length_map] at hw hz
    have hk : (relabelS scope K.sc).names.lookup z = some .local := by rw [← hrel]; exact lookup_relabel_local (O.tgt z (List.mem_of_getElem? hz))
    obtain ⟨v, e, r⟩ := hv _ z w hz hw
    exact ⟨fun _ => e ▸ relO_some r, fun hc => nomatch hk.symm.trans hc⟩
def Turn (G : Gl) (K : Sx) (ρ : List V) (σ : Ow) (ifs : List PySem.Expr) (e : PySem.Expr) (r : Option V) : Prop :=
  (ifs = [] ∧ ∃ z, r = some z ∧ Ev G K ρ σ e z) ∨ ∃ c b, ifs = [c] ∧ Tr G K ρ σ c b ∧ (b = true → ∃ z, r = some z ∧ Ev G K ρ σ e z) ∧ (b = false → r = none)
theorem turn_all {ρ' : List V} {z : V} (h : Ev G K ρ' σ e' z) : Turn G K ρ' σ [] e' (some z) := .inl ⟨rfl, z, rfl, h⟩
theorem turn_if {ρ' : List V} {c : PySem.Expr} {b : Bool} {z : V} (h1 : Tr G K ρ' σ c b) (h2 : b = true → Ev G K ρ' σ e' z) : Turn G K ρ' σ [c] e' (if b then some z else none) :=
  .inr ⟨c, b, rfl, h1, fun e => ⟨z, by rw [e]; rfl, h2 e⟩, fun e => by rw [e]; rfl⟩
theorem Turn.test {F₁ : Fz} {s₁ : Shared} {ρ' : List V} {r : Option V} (h : Turn G K ρ' σ ifs e' r) (k : EOk G K A env ρ' σ F₁ s₁) {R : Bool → Shared → Prop} (h1 : ∀ F₂ s₂ z, St N0 F₁ s₁ F₂ s₂ → EOk G K A env ρ' σ F₂ s₂ → r = some z → Ev G K ρ' σ e' z → R true s₂) (h2 : ∀ F₂ s₂, St N0 F₁ s₁ F₂ s₂ → r = none → R false s₂) :
    wpAny G.M A (forIn ifs true fun c r => if r = true then do let ok ← isTrue c env (eval c env); pure (ForInStep.yield ok) else pure (ForInStep.yield r)) R E s₁ := by
  rcases h with ⟨rfl, z, hr, hz⟩ | ⟨c, b, rfl, hc, ht, hf⟩
  · exact wpAny_tests_nil (h1 F₁ s₁ z (.refl k.rm.sub) k hr hz)
  · refine wpAny_tests_one (hc.bind k fun F₂ s₂ S k₂ => ?_)
    cases b
    · exact h2 F₂ s₂ S (hf rfl)
    · exact (ht rfl).elim fun z q => h1 F₂ s₂ z S k₂ q.1 q.2
theorem compLoop_rule {prog : Program} {w : World} {R : Result → Shared → Prop} {elt target iter : PySem.Expr} {ifs : List PySem.Expr} {scope : Scope} {pos : Pos} {it acc : Value} {env : Env} {s : Shared} (I : Nat → Shared → Prop)
    (turn : ∀ n s E, I n s → wpAny (model prog w) A (pyNext it) (fun r s₁ => match r with
      | none => R (.ok .next) s₁
      | some v => wpAny (model prog w) A (letOwnedTupleGo target it v) (fun _ s₁' => wpAny (model prog w) A (assign target env v) (fun _ s₂ =>
          wpAny (model prog w) A (forIn ifs true fun c r => if r = true then do let ok ← isTrue c env (eval c env); pure (ForInStep.yield ok) else pure (ForInStep.yield r)) (fun ok s₃ =>
            if ok = true then wpAny (model prog w) A (eval elt env) (fun x s₄ => wpAny (model prog w) A (call (.builtin "list.append") [acc, x]) (fun _ s₅ => ∃ m, m < n ∧ I m s₅) E s₄) E s₃ else ∃ m, m < n ∧ I m s₃) E s₂) E s₁') E s₁) E s)
    (n : Nat) (h : I n s) : codeAny (model prog w) A (.compLoop (.ListComp elt [⟨target, iter, ifs, 0⟩] scope pos) 0 it acc env) R s := by
  refine codeAny_loop rfl I (fun n s hI => ?_) n h
  show wpAny _ A ((compTurn (.ListComp elt [⟨target, iter, ifs, 0⟩] scope pos) 0 it acc env).onRaise (fun x => do noteFrame x env; theTreesLotGoes x)) _ _ s
  refine wpAny_noted ?_
  rw [compTurn_list]
  refine wpAny_bind (wpAny_standAt (wpAny_bind (wpAny_mono (turn n s _ hI) (fun r s₁ h₁ => ?_) fun _ _ h' => h')))
  cases r with
  | none => exact wpAny_pure h₁
  | some v =>
    refine wpAny_bind (wpAny_mono h₁ (fun _ s₁' h₂ => wpAny_bind (wpAny_mono h₂ (fun _ s₂ h₂ => wpAny_bind (wpAny_mono h₂ (fun ok s₃ h₃ => ?_) fun _ _ h' => h')) fun _ _ h' => h')) fun _ _ h' => h')
    cases ok with
    | false => exact wpAny_pure ⟨rfl, h₃⟩
    | true => exact wpAny_bind (wpAny_bind (wpAny_mono h₃ (fun x s₄ h₄ => wpAny_bind (wpAny_mono h₄ (fun _ s₅ h₅ => wpAny_pure (wpAny_pure ⟨rfl, h₅⟩)) fun _ _ h' => h')) fun _ _ h' => h'))
inductive Tg (K : Sx) : PySem.Expr → List Str → V → List V → Prop
  | one (y : Str) (p : Pos) (x : V) : Tg K (.Name y p) [y] x [x]
  | two (y z : Str) (p q r : Pos) (kk : Nat) (x w : V) (h : y ≠ z) : Tg K (.Tuple [.Name y p, .Name z q] kk r) [y, z] (.tup [x, w]) [x, w]
theorem Tg.assign {t : PySem.Expr} {ys : List Str} {x : V} {xs : List V} {cenv : Env} {m : Str → Option Value} {v : Value} {R : Unit → Shared → Prop} (h : Tg K t ys x xs) (hh : A.handled = none) (sub : ∀ a o, F a = some o → s.heap.get? a = some o) (hl : ∀ y ∈ ys, cenv.kindOf y = some .local) (hp : (cenv.scope.kind == .class || (cenv.scope.kind == .module && cenv.locals != cenv.globals)) = false) (hn : s.heap.Ns cenv.locals m) (hF : F cenv.locals = none) (r : Rel F x v)
    (k : ∀ h' tk m', h'.Ns cenv.locals m' → xs.length = ys.length → (∀ (j : Nat) y x, ys[j]? = some y → xs[j]? = some x → ∃ v, m' y = some v ∧ Rel F x v) → (∀ b o, b ≠ cenv.locals → s.heap.get? b = some o → h'.get? b = some o) → R () { s with heap := h', toks := tk }) : wpAny G.M A (assign t cenv v) R E s := by
  cases h with
  | one y p => exact wpAny_assign_Name (wpAny_storeName_local (hl y (List.mem_cons_self ..)) hn (fun h' hn' hs' => k h' _ _ hn' rfl (fun j z w hz hw => by
      cases j with
      | zero => cases hz; cases hw; exact ⟨v, if_pos rfl, r⟩
      | succ j => cases hz) hs'.extBut) hp)
  | two y z p q rr kk x w hne =>
    obtain ⟨a, _, rfl, ⟨n', e⟩, v, _, rfl, r1, u, _, rfl, r2, rfl⟩ := r
    refine wpAny_assign_Tuple hh ⟨_, sub _ _ e, rfl, n', rfl⟩ rfl rfl fun h₁ hs => ?_
    have hg : ∀ b o, s.heap.get? b = some o → h₁.get? b = some o := fun b o e => hs b o (Nat.ne_of_lt (Heap.lt_size e)) e
    refine wpAny_assignInOrder_more (wpAny_assign_Name (wpAny_storeName_local (hl y (List.mem_cons_self ..)) (ns_keep hn fun o e => hg _ o e) (fun h₂ hn₂ hs₂ => ?_) hp))
    refine wpAny_assignInOrder_more (wpAny_assign_Name (wpAny_storeName_local (hl z (List.mem_cons_of_mem _ (List.mem_cons_self ..))) hn₂ (fun h₃ hn₃ hs₃ => ?_) hp))
    refine wpAny_pure (k h₃ _ _ hn₃ rfl (fun j y' x' hy hx => ?_) fun b o hb e => hs₃.extBut b o hb (hs₂.extBut b o hb (hg b o e)))
    match j with
    | 0 => cases hy; cases hx; exact ⟨v, by rw [if_neg hne, if_pos rfl], r1⟩
    | 1 => cases hy; cases hx; exact ⟨u, if_pos rfl, r2⟩
    | j + 2 => cases hy
theorem comp_core {T : Type} {Fv : T → V} {Fw : T → List V} {ys : List Str} {tg : PySem.Expr} {ts : List T} (f : T → Option V) (htg : ∀ t, Tg K tg ys (Fv t) (Fw t)) (hchk : compChk K caps ys scope = true) (hit : Ev G K ρ σ it₀ x) (hi : itemsOf x = some (ts.map Fv)) (hl : ts.length ≤ sizeLine) (hsf : ∀ env x, foldedSetIterable it₀ env x = pure x) (ht : ∀ t ∈ ts, Turn G (K.comp caps ys scope) (ρc ρ caps (Fw t)) σ ifs e' (f t)) (k : EOk G K A env ρ σ F s)
    {use : Option (Value → Sem Unit)} {Qp : Value → Shared → Prop} {gp : Pos}
    (fin : ∀ D C F' s' mC vs n, St N0 F s F' s' → s.heap.get? D = none → s.heap.get? C = none → D ≠ C → F' D = none → F' C = none → s'.heap.get? D = some (lobj vs n) → RelL F' (ts.filterMap f) vs → s'.heap.Ns C mC → compPost G.M A E use Qp (.ref D) C (.ok .next) s') :
    wpAny G.M A (comprehension (.ListComp e' [⟨tg, it₀, ifs, 0⟩] scope p) scope env gp (newList []) false (eval it₀ env) use) Qp E s := by
  have O := compOk_of hchk
  refine wpAny_comprehension_free rfl (hsf env) (closure_eq fun z hz hf => by
    obtain ⟨n, kd⟩ := z
    cases (show kd = .free from hf)
    obtain ⟨_, _, c, _, _, _, h3, _⟩ := comp_cell O k hz
    exact ⟨c, h3⟩) O.kind O.locals (hit.bind k fun cv F₁ s₁ S₁ r₁ k₁ => iter_ok hi k₁.rm r₁ fun ob P W hP => wpAny_newObj_type ?_)
  refine wpAny_newFunctionEnv (closure := closL env scope.names []) O.nocell (by intro z hz; simp at hz) (fun h₁ hns₁ hsb₁ => ?_) O.kind
  dsimp only at hns₁ hsb₁ ⊢
  have hitn : s₁.heap.get? s₁.heap.objs.size = none := size_none _
  generalize s₁.heap.objs.size = it at *
  have up₂ : ∀ b o, s₁.heap.get? b = some o → (s₁.heap.push ob).get? b = some o := fun b o e => Heap.get?_push_of_some _ e
  generalize s₁.heap.push ob = H1 at *
  have hDn : H1.get? H1.objs.size = none := size_none _
  have hD0 : (H1.push { cls := .type "list", dict := none, data := .seq ([] : List Value).toArray }).get? H1.objs.size = some (lobj [] 0) := Heap.get?_push_size _ rfl
  have up₃ : ∀ b o, H1.get? b = some o → (H1.push { cls := .type "list", dict := none, data := .seq ([] : List Value).toArray }).get? b = some o := fun b o e => Heap.get?_push_of_some _ e
  have hCn : (H1.push { cls := .type "list", dict := none, data := .seq ([] : List Value).toArray }).get? (H1.push { cls := .type "list", dict := none, data := .seq ([] : List Value).toArray }).objs.size = none := size_none _
  generalize H1.push { cls := .type "list", dict := none, data := .seq ([] : List Value).toArray } = H2 at *
  generalize H1.objs.size = D at *
  generalize H2.objs.size = C at *
  have dead : ∀ {h h' : Heap} {b : Addr}, (∀ b o, h.get? b = some o → h'.get? b = some o) → h'.get? b = none → h.get? b = none := fun {h h' b} u e => by
    cases q : h.get? b with
    | none => rfl
    | some o => exact nomatch e.symm.trans (u b o q)
  have hDC : D ≠ C := by rintro rfl; exact nomatch hCn.symm.trans hD0
  have hD1 : s₁.heap.get? D = none := dead up₂ hDn
  have hC1 : s₁.heap.get? C = none := dead up₂ (dead up₃ hCn)
  have hs₁ : ∀ b o, b ≠ C → H2.get? b = some o → h₁.get? b = some o := fun b o hb e => hsb₁.extBut b o hb (Heap.get?_push_of_some _ e)
  have up : ∀ b o, s₁.heap.get? b = some o → h₁.get? b = some o := fun b o e => hs₁ b o (by rintro rfl; exact nomatch hC1.symm.trans e) (up₃ b o (up₂ b o e))
  have S₂ : St N0 F₁ s₁ F₁ { s₁ with heap := h₁, toks := s₁.toks + ([] : List (Str × Value)).length } := .grow k₁.rm.sub up
  obtain ⟨oi, T, ivs, hoi, hci, hdi, _⟩ := W.obj _ _ hP
  have hitC : it ≠ C := by rintro rfl; exact nomatch hCn.symm.trans (up₃ _ _ hoi)
  have hitD : it ≠ D := by rintro rfl; exact nomatch hDn.symm.trans hoi
  have hP₂ : P 0 h₁ := W.keep _ _ _ hP (fun a o e => up₂ a o (k₁.rm.sub a o e)) (fun a o e => up a o (k₁.rm.sub a o e)) fun o e => hs₁ it o hitC (up₃ _ _ e)
  have loop : codeAny G.M A (.compLoop (.ListComp e' [⟨tg, it₀, ifs, 0⟩] scope p) 0 (.ref it) (.ref D) (compEnvC scope (closL env scope.names []) C env)) (compPost G.M A E use Qp (.ref D) C) { s₁ with heap := h₁, toks := s₁.toks + ([] : List (Str × Value)).length } := by
    refine compLoop_rule (fun m s' => ∃ i F' mC vs n, m + i = ts.length + 1 ∧ i ≤ ts.length ∧ St N0 F s F' s' ∧ (∀ a o, F₁ a = some o → F' a = some o) ∧ F' it = none ∧ F' D = none ∧ F' C = none ∧ P i s'.heap ∧ s'.heap.get? D = some (lobj vs n) ∧ RelL F' ((ts.take i).filterMap f) vs ∧ s'.heap.Ns C mC) ?_ (ts.length + 1)
      ⟨0, F₁, _, [], 0, rfl, Nat.zero_le _, S₁.trans S₂, fun _ _ e => e, k₁.rm.out hitn, k₁.rm.out hD1, k₁.rm.out hC1, hP₂, hs₁ _ _ hDC hD0, rfl, hns₁⟩
    rintro m s' E' ⟨i, F', mC, vs, n, hm, hile, S', upF, hFi, hFD, hFC, hP', hD', rl, hn'⟩
    have k' := k.step S'
    have sub : ∀ {h : Heap}, (∀ a o, F' a = some o → h.get? a = some o) → ∀ a o, F₁ a = some o → h.get? a = some o := fun h a o e => h a o (upF a o e)
    have sIt := S₁.dead hitn
    have sD := S₁.dead hD1
    have sC := S₁.dead hC1
    rcases Nat.lt_or_ge i ts.length with hlt | hge
    · obtain ⟨z, hz⟩ : ∃ z, ts[i]? = some z := ⟨_, List.getElem?_eq_getElem hlt⟩
      refine W.item i s' _ _ (Fv z) (by rw [List.getElem?_map, hz]; rfl) hP' fun v h₂ t₂ hr hP₂ hs₂ => ?_
      refine owned_go (W.obj _ _ hP₂) ?_
      have S₄ := S'.priv (t := t₂) hFi sIt hs₂
      have hn₂ : h₂.Ns C mC := ns_keep hn' fun o e => hs₂ _ _ hitC.symm e
      refine (htg z).assign (cenv := compEnvC scope (closL env scope.names []) C env) k.rm.handled S₄.sub (fun y hy => lookup_relabel_local (O.tgt y hy)) (by show ((relabel scope env).kind == .class || ((relabel scope env).kind == .module && _)) = false; rw [show (relabel scope env).kind = .function from O.kind]; rfl) hn₂ hFC (hr.mono upF) fun h₃ t₃ m₃ hn₃ hlw hw₃ hs₃ => ?_
      have S₅ := S₄.priv (t := t₃) hFC sC hs₃
      have k₅ := comp_env O (k.step S₅) hn₃ hFC hlw hw₃
      have hP₃ : P (i + 1) h₃ := W.keep _ _ _ hP₂ (sub S₄.sub) (sub S₅.sub) fun o e => hs₃ it o hitC e
      have hD₃ : h₃.get? D = some (lobj vs n) := hs₃ D _ hDC (hs₂ _ _ hitD.symm hD')
      obtain ⟨oi₃, _, _, hoi₃, _⟩ := W.obj _ _ hP₃
      obtain ⟨oC₃, hoC₃⟩ := Ns_obj hn₃
      have ht' := ht z (List.mem_of_getElem? hz)
      have etk : ts.take (i + 1) = ts.take i ++ [z] := by obtain ⟨h1, h2⟩ := List.getElem?_eq_some_iff.mp hz; rw [List.take_succ_eq_append_getElem h1, h2]
      have next : ∀ {F₆ : Fz} {s₆ : Shared} {ws : List Value} {n' : Nat}, St N0 F s F₆ s₆ → (∀ a o, F' a = some o → F₆ a = some o) → F₆ it = none → F₆ D = none → F₆ C = none → (∀ b o, b ≠ D → h₃.get? b = some o → ∃ o', s₆.heap.get? b = some o' ∧ KeepO o o') → s₆.heap.get? D = some (lobj ws n') → RelL F₆ ((ts.take (i + 1)).filterMap f) ws →
          ∃ m', m' < m ∧ ∃ i F' mC vs n, m' + i = ts.length + 1 ∧ i ≤ ts.length ∧ St N0 F s F' s₆ ∧ (∀ a o, F₁ a = some o → F' a = some o) ∧ F' it = none ∧ F' D = none ∧ F' C = none ∧ P i s₆.heap ∧ s₆.heap.get? D = some (lobj vs n) ∧ RelL F' ((ts.take i).filterMap f) vs ∧ s₆.heap.Ns C mC := fun S₆ u6 o1 o2 o3 kp hD₆ rl₆ =>
        ⟨m - 1, by (exact a14 hm hile), i + 1, _, _, _, _, by (exact a28 hm hile), hlt, S₆, fun a o e => u6 a o (upF a o e), o1, o2, o3, W.keep _ _ _ hP₃ (sub S₅.sub) (fun a o e => S₆.sub a o (u6 a o (upF a o e))) fun o e => (kp it o hitD e).elim fun o' q => q.2.elim (fun h => h ▸ q.1) fun h => h.1.elim fun es h => h.elim fun n h => (by obtain ⟨oi', T', vs', h1, _, h3, _⟩ := W.obj _ _ hP₃; rw [show h₃.get? it = some o from e] at h1; cases h1; rw [h3] at h; cases h), hD₆, rl₆, ns_keepO hn₃ fun o e => kp C o hDC.symm e⟩
      refine ht'.test k₅ (fun F₆ s₆ u S₆ k₆ hu hev => ?_) fun F₆ s₆ S₆ hu => ?_
      · rw [if_pos rfl]
        refine hev.bind k₆ fun w F₇ s₇ S₇ r₇ k₇ => ?_
        have S₆₇ := S₆.trans S₇
        have hD₇ := S₆₇.keep D _ hD₃ id (fun _ _ e => nomatch e)
        have rl₇ := RelL.mono S₆₇.up rl
        refine wpAny_list_append_plain ⟨n, hD₇⟩ (fun h₈ hp hs₈ => ?_) (by rw [List.size_toArray, rl.length]; exact Nat.le_trans (List.length_filterMap_le ..) (Nat.le_trans (List.length_take_le ..) (by (exact a31 hlt hl))))
        obtain ⟨n', hp⟩ := hp
        have hp' : h₈.get? D = some (lobj (vs ++ [w]) n') := by rw [hp]; simp [lobj]
        have hFD₇ := S₆₇.out hFD hD₃
        have eq : (ts.take (i + 1)).filterMap f = (ts.take i).filterMap f ++ [u] := by rw [etk, List.filterMap_append]; simp [hu]
        exact next ((S₅.trans S₆₇).priv (t := s₇.toks) hFD₇ sD hs₈.extBut) S₆₇.up (S₆₇.out hFi hoi₃) hFD₇ (S₆₇.out hFC hoC₃) (fun b o hb e => (S₆₇.keepO b o e id).imp fun o' q => ⟨hs₈.extBut b o' hb q.1, q.2⟩) hp' (by rw [eq]; exact rl₇.append (.one r₇))
      · rw [if_neg Bool.false_ne_true]
        refine next (S₅.trans S₆) S₆.up (S₆.out hFi hoi₃) (S₆.out hFD hD₃) (S₆.out hFC hoC₃) (fun b o _ e => S₆.keepO b o e id) (S₆.keep D _ hD₃ id (fun _ _ e => nomatch e)) ?_
        have eq : (ts.take (i + 1)).filterMap f = (ts.take i).filterMap f := by rw [etk, List.filterMap_append]; simp [hu]
        rw [eq]; exact RelL.mono S₆.up rl
    · cases Nat.le_antisymm hile hge
      refine W.done s' _ _ (by rw [List.length_map]; exact hP') fun h₂ t₂ hs₂ => ?_
      rw [List.take_length] at rl
      exact fin D C F' _ mC vs n (S'.priv (t := t₂) hFi sIt hs₂) sD sC hDC hFD hFC (hs₂ _ _ hitD.symm hD') rl (ns_keep hn' fun o e => hs₂ _ _ hitC.symm e)
  exact codeAny_compStart_list loop (W.self _ _ _ _ hP₂ loop)
theorem ev_compT {T : Type} {Fv : T → V} {Fw : T → List V} {ys : List Str} {tg : PySem.Expr} {ts : List T} (f : T → Option V) (htg : ∀ t, Tg K tg ys (Fv t) (Fw t)) (hit : Ev G K ρ σ it₀ x) (hi : itemsOf x = some (ts.map Fv)) (hl : ts.length ≤ sizeLine) (ht : ∀ t ∈ ts, Turn G (K.comp caps ys scope) (ρc ρ caps (Fw t)) σ ifs e' (f t)) (hchk : compChk K caps ys scope = true) (hsf : ∀ env x, foldedSetIterable it₀ env x = pure x) :
    Ev G K ρ σ (.ListComp e' [⟨tg, it₀, ifs, 0⟩] scope p) (.lst (ts.filterMap f)) := fun A env F s E k => by
  rw [eval_ListComp]
  refine comp_core f htg hchk hit hi hl hsf ht k fun D C F' s' mC vs n S hD hC hDC hFD hFC hl' rl hn => ⟨mC, hn, fun h' hs' => ?_⟩
  have hD' : h'.get? D = some (lobj vs n) := by rw [hs'.2 D hDC]; exact hl'
  have S' := S.priv (t := s'.toks) hFC hC hs'.extBut
  exact ⟨_, S'.freeze hD hD' hFD, D, vs, rfl, ⟨n, Fz.add_self⟩, rl.mono fun a o e => (if_neg (by rintro rfl; exact nomatch hFD.symm.trans e)).trans e⟩
theorem ev_comp {T : Type} {Fv : T → V} {ts : List T} (f : T → Option V) (hit : Ev G K ρ σ it₀ x) (hi : itemsOf x = some (ts.map Fv)) (hl : ts.length ≤ sizeLine) (ht : ∀ t ∈ ts, Turn G (K.comp caps [y] scope) (ρc ρ caps [Fv t]) σ ifs e' (f t)) (hchk : compChk K caps [y] scope = true := by decide +kernel) (hsf : ∀ env x, foldedSetIterable it₀ env x = pure x := by intros; rfl) :
    Ev G K ρ σ (.ListComp e' [⟨.Name y py, it₀, ifs, 0⟩] scope p) (.lst (ts.filterMap f)) := ev_compT f (fun t => .one y py _) hit hi hl ht hchk hsf
def swapChk (K : Sx) (n : Str) (l l' : Nat) (scope : Scope) : Bool := (K.sc.names.lookup n == some .local) && l == l' && !(scope.names.any fun (m, k) => m == n && (k == .local || k == .cell))
theorem swap_yes {n : Str} {l : Nat} {gs : List Comprehension} (h : swapChk K n q.line p.line scope = true) (h1 : env.scope = K.sc) (h2 : env.scope.kind = .function) : swapsWith (.ListComp e' gs scope p) (some (.Name n q)) l env = pure true := by
  unfold swapChk at h
  rw [← h1] at h
  have e : swapsWith (.ListComp e' gs scope p) (some (.Name n q)) l env = pure (env.blockKind == .function && env.kindOf n == some .local && q.line == p.line && !(scope.names.any fun (m, k) => m == n && (k == .local || k == .cell))) := rfl
  rw [e]
  have h3 : (env.blockKind == .function) = true := by unfold Env.blockKind; rw [h2]; rfl
  rw [h3]
  exact congrArg pure h
theorem ws_asg_comp (i : Nat) {n : Str} {Q : KS} {ss : List Stmt} {p' : Pos} {T : Type} {Fv : T → V} {ts : List T} (f : T → Option V)  (hit : Ev G K ρ σ it₀ x) (hi : itemsOf x = some (ts.map Fv)) (hl : ts.length ≤ sizeLine) (ht : ∀ t ∈ ts, Turn G (K.comp caps [y] scope) (ρc ρ caps [Fv t]) σ ifs e' (f t)) (h : WS G K ss (ρ.set i (.lst (ts.filterMap f))) σ Q) (hx : nameOK K i n = true := by decide +kernel) (hchk : compChk K caps [y] scope = true := by decide +kernel) (hsw : swapChk K n q.line p.line scope = true := by decide +kernel) (hsf : ∀ env x, foldedSetIterable it₀ env x = pure x := by intros; rfl) : WS G K (.Assign [.Name n q] (.ListComp e' [⟨.Name y py, it₀, ifs, 0⟩] scope p) p' :: ss) ρ σ Q :=
  ws_cons fun A env F s E k => by
    rw [exec_Assign_Name_used _ _ _ _ (swap_yes hsw k.e.sc k.e.kind)]
    refine wpAny_bind (wpAny_standAt (wpAny_bind ?_))
    show wpAny _ A (do let _ ← comprehension (.ListComp e' [⟨.Name y py, it₀, ifs, 0⟩] scope p) scope env _ (newList []) false (eval it₀ env) (some (assign (.Name n q) env))) _ _ s
    refine wpAny_bind (wpAny_mono (comp_core (Qp := fun _ s' => PS G K A env σ F s (Kc G K ss Q) .next s') f (fun t => .one y py _) hchk hit hi hl hsf ht k.e fun D C F' s' mC vs nn S hD hC hDC hFD hFC hl' rl hn => ?_) (fun _ s' hq => wpAny_pure (wpAny_pure hq)) fun _ _ e => e)
    have S₂ := S.freeze hD hl' hFD
    have hFC₂ : F'.add D (lobj vs nn) C = none := (if_neg hDC.symm).trans hFC
    have k₂ := k.step S₂
    have hnl : ∀ b o, s.heap.get? b = some o → b ≠ C := fun b o e => by rintro rfl; exact nomatch hC.symm.trans e
    have hCown : ¬ Own env C := by
      rintro (e | ⟨z, hz⟩)
      · obtain ⟨mm, hm, _⟩ := k.e.loc.vars
        obtain ⟨o, ho⟩ := Ns_obj hm
        exact hnl _ _ ho e.symm
      · obtain ⟨⟨ov, oc, h1, _⟩, _⟩ := k.own z C hz
        exact hnl _ _ h1 rfl
    show wpAny _ A (assign (.Name n q) env (.ref D)) _ _ s'
    refine wpAny_assign_Name (store_ok (x := .lst (ts.filterMap f)) k₂ hx ⟨D, vs, rfl, ⟨nn, Fz.add_self⟩, rl.mono fun a o e => (if_neg (by rintro rfl; exact nomatch hFD.symm.trans e)).trans e⟩ fun h' t k₃ L₃ hk₃ => ⟨mC, ns_keep hn fun o e => hk₃ C o hCown e, fun h'' hs'' => ?_⟩)
    refine ⟨.next, _, σ, _, trivial, k₃.other (t := t) hFC₂ hs''.extBut hCown (k.e.rm.nofr fun o es n e => nomatch hC.symm.trans e) (fun a zs q => (k₃.e.own a zs q).imp id fun h2 => h2.imp fun o h2 => ⟨hs''.extBut _ _ ?_ h2.1, h2.2⟩) k₃.sep, (S₂.lk.trans L₃).priv hFC₂ hC hs''.extBut, h⟩
    rintro rfl
    exact (k.e.own _ zs q).2.elim fun _ q => nomatch hC.symm.trans q.1
end
end Mine

set_option autoImplicit false
set_option linter.all false
set_option genSizeOf false
set_option genInjectivity false
set_option maxRecDepth 100000
namespace Mine
open PySem PySem.W PyProof.Rows
theorem lookup_zip : ∀ {ns : List Str} {vs : List Value}, ns.Nodup → vs.length = ns.length → ns.filterMap (fun n => ((ns.zip vs).lookup n).map (n, ·)) = ns.zip vs := by
  intro ns vs hn hl
  have key : ∀ (ps : List (Str × Value)) (l : List Str) (w : List Value), l.Nodup → w.length = l.length → (∀ n ∈ l, ps.lookup n = none) → l.filterMap (fun n => ((ps ++ l.zip w).lookup n).map (n, ·)) = l.zip w := by
    intro ps l
    induction l generalizing ps with
    | nil => intro w _ _ _; simp
    | cons a l ih =>
      intro w hn hw hp
      cases w with
      | nil => simp at hw
      | cons v w =>
        have ha : ps.lookup a = none := hp a (List.mem_cons_self ..)
        have e1 : (ps ++ (a :: l).zip (v :: w)).lookup a = some v := by
          rw [List.zip_cons_cons, List.lookup_append, ha]; simp
        rw [List.filterMap_cons, e1]
        have e2 : ps ++ (a :: l).zip (v :: w) = (ps ++ [(a, v)]) ++ l.zip w := by simp
        simp only [Option.map_some]
        rw [e2, ih (ps ++ [(a, v)]) w (List.nodup_cons.mp hn).2 (by simpa using hw) (fun n hm => ?_)]
        · simp
        · rw [List.lookup_append, hp n (List.mem_cons_of_mem _ hm)]
          have hne : n ≠ a := by rintro rfl; exact (List.nodup_cons.mp hn).1 hm
          have : (n == a) = false := by simpa using hne
          simp [List.lookup_cons, this]
  simpa using key [] ns vs hn hl (by simp)
theorem lookup_zip_none : ∀ {ns : List Str} {vs : List Value} {n : Str}, vs.length = ns.length → n ∈ ns → ((ns.zip vs).lookup n).isNone = false
  | a :: l, v :: w, n, hl, hm => by
    rw [List.zip_cons_cons, List.lookup_cons]
    by_cases e : n = a
    · subst e; simp
    · have : (n == a) = false := by simpa using e
      rw [this]
      exact lookup_zip_none (by simpa using hl) (by rcases List.mem_cons.mp hm with h | h; exact absurd h e; exact h)
  | _ :: _, [], _, hl, _ => by simp at hl
theorem bind_simple {fd : FuncData} {ns : List Str} {vs : List Value} (h1 : fd.params.posonlyargs = []) (h2 : fd.params.args.map (·.arg) = ns) (h3 : fd.params.kwonlyargs = []) (h4 : fd.params.vararg = none) (h5 : fd.params.kwarg = none)
    (h6 : fd.defaults = .none) (hn : ns.Nodup) (hl : vs.length = ns.length) : bindArgs fd ⟨vs, []⟩ = pure (ns.zip vs) := by
  unfold bindArgs
  have hm : (ns.filter fun n => ((ns.zip vs).lookup n).isNone) = [] := by
    rw [List.filter_eq_nil_iff]; intro n hn'; rw [lookup_zip_none hl hn']; decide
  have hs : seqItems? fd.defaults = pure none := by rw [h6]; rfl
  simp only [h1, h2, h3, h4, h5, hs, List.map_nil, List.nil_append, List.forIn_nil, pure_bind, Option.getD_none, List.append_nil, hl, Nat.lt_irrefl, gt_iff_lt, decide_false, Bool.false_and, Bool.false_eq_true, if_false]
  simp [hm, lookup_zip hn hl]
structure Fn where
  ns : List Str
  np : Nat
def recOf (p : Program) (f : Str) : Option DefRec := (recsOf p).find? fun d => d.name == f
def bodyOf (p : Program) (f : Str) : List Stmt := match recOf p f with | some d => d.body | none => []
def sxOf (p : Program) (f : Str) (F : Fn) : Sx := match recOf p f with | some d => ⟨d.scope, F.ns⟩ | none => ⟨default, []⟩
def recChk (p : Program) (f : Str) (F : Fn) : Bool := match recOf p f with
  | some d => d.params.posonlyargs.isEmpty && (d.params.args.map (·.arg) == F.ns.take F.np) && d.params.kwonlyargs.isEmpty && d.params.vararg.isNone && d.params.kwarg.isNone && fnChk ⟨d.scope, F.ns⟩ F.np
  | none => false
section
variable {p : Program} {loose : List Str} {mean : ExcName → Option Value} {mg mb : Str → Option Value} {h : Heap} {prog : Program} {w : World} {dd : Nat}
theorem top_fn (T : Top p loose mean mg mb h) {f : Str} {F : Fn} (hk : recChk p f F = true) : FnAt h mg f (sxOf p f F) F.np (bodyOf p f) := by
  unfold sxOf bodyOf
  unfold recChk at hk
  split at hk
  · rename_i d hd
    simp only [Bool.and_eq_true, List.isEmpty_iff, Option.isNone_iff_eq_none, beq_iff_eq] at hk
    obtain ⟨⟨⟨⟨⟨k1, k2⟩, k3⟩, k4⟩, k5⟩, k6⟩ := hk
    have hn : d.name = f := eq_of_beq (List.find?_some (p := fun d : DefRec => d.name == f) hd)
    obtain ⟨a, o, pm, code, doc, h1, h2, h3, h4⟩ := T.fn d (List.mem_of_find?_eq_some hd)
    rw [hn] at h1
    have e : fnA mg f = a := by unfold fnA; simp only [h1]
    have k7 := k6
    unfold fnChk at k7
    simp only [Bool.and_eq_true, decide_eq_true_eq] at k7
    refine ⟨⟨o, _, ?_, ?_, h3, h4, rfl, rfl, rfl, rfl, fun vs hl => ?_, rfl⟩, k6⟩
    · rw [e]; exact h1
    · rw [e]; exact h2
    · exact bind_simple k1 k2 k3 k4 k5 rfl (k7.1.2.sublist (List.take_sublist ..)) (by rw [List.length_take, Nat.min_eq_left k7.2]; exact hl)
  · cases hk
def freeChk (p : Program) (loose : List Str) (x : Str) : Bool :=
  !(startupNames.contains x) && !(loose.contains x) && !(((recsOf p).map (·.name)).contains x) && !(((litsOf p).map (·.1)).contains x) && !(((clssOf p loose).map (·.name)).contains x) && !(x == ("__name__" : Str))
theorem top_builtin (T : Top p loose mean mg mb h) {x : Str} (hk : freeChk p loose x = true) : mg x = none ∧ mb x = bootBuiltins x := by
  unfold freeChk at hk
  simp only [Bool.and_eq_true, Bool.not_eq_true', beq_eq_false_iff_ne, ne_eq] at hk
  obtain ⟨⟨⟨⟨⟨k1, k2⟩, k3⟩, k4⟩, k5⟩, k6⟩ := hk
  have f : ∀ {l : List Str}, l.contains x = false → x ∉ l := fun hc hm => by rw [List.contains_iff_mem.mpr hm] at hc; cases hc
  exact ⟨T.free x (f k1) (f k2) (f k3) (f k4) (f k5), T.builtins x k6⟩
theorem blt_boot : ∀ y ∈ blts, bootBuiltins y.1 = some y.2 := by
  intro y hy
  simp only [blts, List.mem_cons, List.not_mem_nil, or_false] at hy
  rcases hy with rfl | rfl | rfl | rfl | rfl | rfl | rfl | rfl | rfl | rfl | rfl | rfl | rfl <;> decide +kernel
theorem top_gl (T : Top p loose mean mg mb h) (hb : (blts.all fun y => freeChk p loose y.1) = true) : Gl.Ok ⟨prog, w, h, mg, mb, dd⟩ :=
  ⟨T.g, T.b, T.nolimit, fun i x v hi => have hm := List.mem_of_getElem? hi; let ⟨a, b⟩ := top_builtin T (List.all_eq_true.mp hb _ hm); ⟨a, b.trans (blt_boot _ hm)⟩⟩
end
theorem law_post (l : OpenLaw) (args : List WData) : l.row.claim.post args (.bool true) args = true := by
  show (WShape.has [] (.bool true) .bool && WTm.holds [] (.eq .res (.lit (.bool true))) { args := args, res := some (.bool true), after := args }) = true
  simp [WShape.has, WTm.holds, WTm.value, same, WShape.arms]
theorem head_ok {G : Gl} (GO : G.Ok) {s : Shared} {fa : Addr} (hf : G.fn "law" = fa) (hs : s.heap = G.B) (hd : G.d = 680) (hg : s.gens = #[]) {a : Addr} {vs : List Value} {zs : List Int} (hL : s.heap.IsList a vs.toArray) (hI : IntsAre vs zs)
    {c : ClaimW} {cl : Str → Option Addr} {mean : ExcName → Option Value} {args : List WData} (hn : ∀ cls, c.raises args cls = false) (hp : c.post args (.bool true) args = true)
    {K : Sx} {sts : List Stmt} (FA : FnAt G.B G.mg "law" K 1 sts) (h : WS G.dn K sts (.scr (zs.map .int) :: List.replicate (K.ns.length - 1) .unb) σ0 (retQ (.bool true))) :
    codeAny G.M callerA (.call (.ref fa) ⟨[.ref a], []⟩) (GoodWG c cl mean args s) s := by
  subst hf
  have hr : ∀ {F : Fz} {vs : List Value} {zs : List Int}, IntsAre vs zs → RelL F (zs.map .int) vs := by
    intro F vs zs hI
    induction hI with
    | nil => rfl
    | cons _ _ _ ih => exact ⟨_, _, rfl, ⟨_, rfl⟩, ih⟩
  have k : Rm G callerA s.heap.get? s := ⟨GO, fun a o e => hs ▸ e, fun _ _ e => e, by rw [hd]; show 1 + claimMargin + 680 ≤ 1000; decide, by rw [hd]; decide, rfl, [], rfl, fun _ m => nomatch m⟩
  refine enter_ok FA.o (xs := [.scr (zs.map .int)]) (F := s.heap.get?) rfl (by rw [hd]; decide) h k ⟨_, _, rfl, ⟨a, vs, rfl, hL, hr hI⟩, rfl⟩ (fun _ _ q => nomatch q) fun fl v σ' F' s' hf own S d q => ?_
  have hv : v = .bool true := by
    obtain ⟨ρ, q⟩ := q
    rcases hf with hf | ⟨rfl, rfl⟩
    · cases fl with
      | next => exact hf.elim
      | ret x =>
        generalize hz : V.bool true = z at q
        cases (show Res σ' x z from q) with
        | id => subst hz; exact hf
        | own => cases hz
        | tup => cases hz
    · exact nomatch (show V.bool true = .none from q)
  subst hv
  refine GoodW.toG ⟨.inl ⟨_, _, [], rfl, hn, .bool true, hp, unshared_nil⟩, fun b o e => ?_, ?_, ?_⟩
  · exact S.sub b o (S.up b o e)
  · rw [S.rest]
  · rw [S.rest]; exact hg
end Mine

set_option autoImplicit false
set_option linter.all false
set_option genSizeOf false
set_option genInjectivity false
set_option maxRecDepth 100000
namespace Mine
open PySem PyProof.Rows
section
variable {G : Gl} {K : Sx} {A : Around} {env : Env} {ρ : List V} {σ : Ow} {F F₁ : Fz} {s s₁ : Shared} {E : Value → Shared → Prop} {Q : KS} {e l r : PySem.Expr} {es : List PySem.Expr} {ss : List Stmt} {x y z : V} {p q q' pc : Pos} {b : Bool} {a a' : List Nat} {xs ys zs : List V} {f : Str}
theorem ws_expr (h1 : Ev G K ρ σ e x) (h : WS G K ss ρ σ Q) (hs : ∀ env, swapsWith e none p.line env = pure false := by intros; rfl) : WS G K (.Expr e p :: ss) ρ σ Q :=
  ws_cons fun A env F s E k => wpAny_Expr_any (h1.bind k.e fun v F₁ s₁ S r k₁ => ⟨.next, ρ, σ, F₁, trivial, k.step S, S.lk, h⟩) (by unfold interactive; rw [k.e.kind]; rfl) (hs env)
inductive PN (F : Fz) (s : Shared) (zs : List V) (v : Value) (s' : Shared) : Prop
  | mk (F' : Fz) (a : Addr) (vs : List Value) (n : Nat) (S : St N0 F s F' s') (hv : v = .ref a) (hn : s.heap.get? a = none) (hF : F' a = none) (ho : s'.heap.get? a = some (lobj vs n)) (r : RelL F' zs vs)
structure New (G : Gl) (f : Str) (xs zs : List V) : Prop where
  is : ∃ o fd, G.mg f = some (.ref (G.fn f)) ∧ G.B.get? (G.fn f) = some o ∧ o.data = .func fd
  run : ∀ A F s E vs, Rm G A F s → RelL F xs vs → wpAny G.M A (call (.ref (G.fn f)) vs) (PN F s zs) E s
theorem New.pure (h : New G f xs zs) : Pure G f xs (.lst zs) :=
  ⟨h.is, fun A F s E vs k r => wpAny_mono (h.run A F s E vs k r) (fun v s' q => q.casesOn fun F' a us n S hv hn hF ho ru => ⟨_, S.freeze hn ho hF, a, us, hv, ⟨n, Fz.add_self⟩, ru.mono fun b o e => (if_neg (by rintro rfl; exact nomatch hF.symm.trans e)).trans e⟩) fun _ _ e => e⟩
def retN (zs : List V) : KS := fun fl _ σ => match fl with | .ret x => ∃ a, x = .ref a ∧ σ a = some (.lst zs) | .next => False
theorem new_of {np : Nat} {sts : List Stmt} (FA : FnAt G.B G.mg f K np sts) (hlen : xs.length = np) (hd : 0 < G.d) (h : WS G.dn K sts (xs ++ List.replicate (K.ns.length - np) .unb) σ0 (retN zs)) : New G f xs zs :=
  ⟨FA.obj.imp fun _ q => q.imp fun _ q => ⟨q.1, q.2.1, q.2.2.1⟩, fun A F s E vs k r => wpAny_call (enter_ok FA.o hlen hd h k r (fun _ _ q => nomatch q) fun fl v σ' F' s' hf own S d q => by
    obtain ⟨ρ, q⟩ := q
    rcases hf with hf | ⟨rfl, rfl⟩
    · cases fl with
      | next => exact hf.elim
      | ret x =>
        obtain ⟨a, rfl, ha⟩ := q
        obtain ⟨hF, _, hu, us, n, rfl, ru⟩ := own a _ ha
        exact ⟨F', a, us, n, S.weaken fun b o _ q => q.elim fun _ q => (nomatch q.1), hf, (d a _ ha).elim (fun q => q.elim fun _ q => (nomatch q.1)) id, hF, hu, ru⟩
    · exact q.elim)⟩
theorem FOk.owned {v : Value} (k : FOk G K A env ρ σ F s) (h : PN F s zs v s₁) : ∃ a F₁, v = .ref a ∧ σ a = none ∧ FOk G K A env ρ (σ.set a zs) F₁ s₁ ∧ Lk env σ F s (σ.set a zs) F₁ s₁ :=
  h.casesOn fun F₁ a us n S hv hn hF ho ru => by
    have k' := k.step S
    have hσ : σ a = none := by
      cases q : σ a with
      | none => rfl
      | some xs => exact (k.e.own _ xs q).2.elim fun _ q => nomatch hn.symm.trans q.1
    refine ⟨a, F₁, hv, hσ, ⟨⟨k'.e.rm, k'.e.sc, k'.e.kind, k'.e.globals, k'.e.builtins, fun b xs q => ?_, k'.e.loc⟩, k'.top, k'.apart, k'.nodup, k'.own, k.setSep (k.newSep hn)⟩, S.any, fun b xs q => ?_⟩
    · by_cases h : b = a
      · subst h; cases (Ow.set_self ..).symm.trans q; exact ⟨hF, _, ho, us, n, rfl, ru⟩
      · exact k'.e.own b xs ((Ow.set_ne _ _ h).symm.trans q)
    · by_cases h : b = a
      · exact .inr (h ▸ hn)
      · exact .inl ⟨xs, (Ow.set_ne _ _ h).symm.trans q, id⟩
theorem ws_ret_comp {caps : List Nat} {n : Str} {py : Pos} {it₀ e' : PySem.Expr} {ifs : List PySem.Expr} {scope : Scope} {T : Type} {Fv : T → V} {ts : List T} (g : T → Option V) (hit : Ev G K ρ σ it₀ x) (hi : itemsOf x = some (ts.map Fv)) (hl : ts.length ≤ sizeLine) (ht : ∀ t ∈ ts, Turn G (K.comp caps [n] scope) (ρc ρ caps [Fv t]) σ ifs e' (g t)) (h : ∀ a, σ a = none → Q (.ret (.ref a)) ρ (σ.set a (ts.filterMap g))) (hchk : compChk K caps [n] scope = true := by decide +kernel) (hsf : ∀ env x, foldedSetIterable it₀ env x = pure x := by intros; rfl) :
    WS G K (.Return (some (.ListComp e' [⟨.Name n py, it₀, ifs, 0⟩] scope p)) q :: ss) ρ σ Q :=
  ws_cons fun A env F s E k => wpAny_Return_some (by
    rw [eval_ListComp]
    refine comp_core g (fun t => .one n py _) hchk hit hi hl hsf ht k.e fun D C F' s' mC vs n S hD hC hDC hFD hFC hl' rl hn => ⟨mC, hn, fun h' hs' => ?_⟩
    have hD' : h'.get? D = some (lobj vs n) := by rw [hs'.2 D hDC]; exact hl'
    obtain ⟨a, F₂, e, hσ, k₂, L₂⟩ := k.owned (v := .ref D) (⟨F', D, vs, n, S.priv (t := s'.toks) hFC hC hs'.extBut, rfl, hD, hFD, hD', rl⟩ : PN F s _ _ _)
    cases e
    exact ⟨.ret (.ref D), ρ, _, F₂, rfl, k₂, L₂, h D hσ⟩)
end
end Mine

set_option autoImplicit false
set_option linter.all false
set_option genSizeOf false
set_option genInjectivity false
set_option maxRecDepth 100000
namespace Mine
open PySem PySem.W PyProof.Rows
section
variable {G : Gl} {A : Around} {F₀ F : Fz} {s s₀ : Shared} {E : Value → Shared → Prop}
def KJ (F : Fz) (x : KRow) (r : Row) : Prop := (∃ t, x.1 = .str ⟨r.1.toArray⟩ t) ∧ Rel F (RowV r) x.2
theorem kj_zip : ∀ {rs : List Row} {ks vs : List Value}, RelL F (rs.map fun r => .str r.1) ks → RelL F (rs.map RowV) vs → Paired (KJ F) (ks.zip vs) rs
  | [], _, _, rfl, rfl => .nil
  | _ :: _, _, _, ⟨_, _, rfl, r1, r⟩, ⟨_, _, rfl, r2, r'⟩ => .cons ⟨r1, r2⟩ (kj_zip r r')
theorem kj_out : ∀ {L : List KRow} {rs : List Row}, Paired (KJ F) L rs → RelL F (rs.map RowV) (L.map (·.2))
  | _, _, .nil => rfl
  | _, _, .cons h t => ⟨_, _, rfl, h.2, kj_out t⟩
theorem kj_cmp {x y : KRow} {r r' : Row} (hx : KJ F x r) (hy : KJ F y r') : wpAny G.M A (keyLt' oneType' x.1 y.1) (fun c s' => c = nameLt r r' ∧ s' = s) E s := by
  obtain ⟨⟨t, ht⟩, _⟩ := hx
  obtain ⟨⟨u, hu⟩, _⟩ := hy
  rw [ht, hu, keyLt'_oneType]
  refine oneLt_str ⟨?_, rfl⟩
  unfold nameLt; rfl
structure KAt (F₀ : Fz) (s₀ : Shared) (F : Fz) (s : Shared) (aa kS : Addr) (keys : Array Value) (e1 : Nat) : Prop where
  S : St N0 F₀ s₀ F s
  k : ∃ e, s.heap.get? kS = some (seqObj "list" keys e)
  ha : s.heap.get? aa = some (seqObj "list" #[] e1)
  k0 : s₀.heap.get? kS = none
  a0 : s₀.heap.get? aa = none
  fk : F kS = none
  fa : F aa = none
  ne : aa ≠ kS
set_option maxHeartbeats 4000000 in
theorem kTail {a kS : Addr} {keys : Array Value} {e1 : Nat} {st : SortSt} {L' : List KRow} {P : Fin → Shared → Prop} (k : KAt F₀ s₀ F s a kS keys e1) (hkl : keys.size ≤ 10000) (hst : arrOf st = L'.toArray) (hf : failedOf st = none) (hl : L'.length ≤ 10000)
    (h : ∀ s' c, St N0 F₀ s₀ F s' → s'.heap.get? a = some (seqObj "list" (L'.map (·.2)).toArray c) → P (.done (.ret .none)) s') : wpAny G.M A (ksk_tail a false e1 (.ref kS) st) P E s := by
  obtain ⟨S, ⟨e, hk⟩, ha, k0, a0, fk, fa, hne⟩ := k
  have hzz : (arrOf st).map (·.2) = (L'.map (·.2)).toArray := by rw [hst]; simp
  unfold ksk_tail
  try dsimp only
  simp only [Bool.false_eq_true, if_false]
  refine wpAny_bind (listUpdate_at hk rfl ?_ (by rw [sizeLine_eq]; (exact a39 hkl)) (Nat.zero_le _))
  have S1 := S.priv (t := s.toks) fk k0 (Heap.SameBut.update s.heap kS (Obj.mapSeq fun _ => (#[] : Array Value))).extBut
  have ha1 : (s.heap.update kS (Obj.mapSeq fun _ => (#[] : Array Value))).get? a = some (seqObj "list" #[] e1) := ((Heap.SameBut.update s.heap kS (Obj.mapSeq fun _ => (#[] : Array Value))).2 a hne).trans ha
  refine wpAny_bind (wpAny_letGo ?_)
  refine wpAny_bind (seqEpoch_at ha1 rfl ?_)
  refine wpAny_bind (listUpdate_at ha1 rfl ?_ (Nat.zero_le _) (by rw [hzz, List.size_toArray, List.length_map, sizeLine_eq]; (exact a44 hl)))
  have S2 := S1.priv (t := s.toks) fa a0 (Heap.SameBut.update (s.heap.update kS (Obj.mapSeq fun _ => (#[] : Array Value))) a (Obj.mapSeq fun _ => (arrOf st).map (·.2))).extBut
  rw [hf]
  simp only [bne_self_eq_false, Bool.false_eq_true, if_false]
  obtain ⟨c2, hc2⟩ : ∃ c2, ((s.heap.update kS (Obj.mapSeq fun _ => (#[] : Array Value))).update a (Obj.mapSeq fun _ => (arrOf st).map (·.2))).get? a = some (seqObj "list" ((arrOf st).map (·.2)) c2) := ⟨_, get?_update_seq ha1 fun _ => (arrOf st).map (·.2)⟩
  exact wpAny_pure (h _ c2 S2 (hc2.trans (congrArg (fun x => some (seqObj "list" x c2)) hzz)))
theorem kEnd {a kS : Addr} {vs : List Value} {rs : List Row} {keys : Array Value} {e1 : Nat} {P : Fin → Shared → Prop} (k : KAt F₀ s₀ F s a kS keys e1) (rk : RelL F (rs.map fun r => .str r.1) keys.toList) (rv : RelL F (rs.map RowV) vs) (hl : rs.length ≤ 10000)
    (h : ∀ (s' : Shared) (c : Nat) (out : List Value) (rs' : List Row), St N0 F₀ s₀ F s' → s'.heap.get? a = some (seqObj "list" (List.toArray out) c) → RelL F (rs'.map RowV) out → rs'.Perm rs → rs'.Pairwise (fun a b => nameLt b a = false) → P (.done (.ret .none)) s') : wpAny G.M A (ksk_end a false vs.toArray e1 (.ref kS) keys) P E s := by
  have hkl : keys.size = rs.length := by have := rk.length; simpa using this
  have hvl : vs.length = rs.length := by have := rv.length; simpa using this
  have J := kj_zip rk rv
  have hz : keys.zip vs.toArray = (keys.toList.zip vs).toArray := by apply Array.ext'; simp
  unfold ksk_end
  try dsimp only
  simp only [Bool.false_eq_true, if_false]
  have hsz : vs.toArray.size = vs.length := by simp
  by_cases h2 : vs.toArray.size < 2
  · rw [if_pos h2, if_pos h2]
    refine wpAny_bind (wpAny_pure ?_)
    rw [StateT.run_pure]
    refine wpAny_bind (wpAny_pure ?_)
    try dsimp only
    refine kTail (st := SortSt.mk' general' (keys.zip vs.toArray) #[] 7 none) k (by (exact a40 hkl h2 hvl)) (show keys.zip vs.toArray = _ from hz) rfl (by rw [List.length_zip, Array.length_toList]; (exact a41 h2)) fun s' c S' h1 => h s' c _ rs S' h1 (kj_out J) (.refl _) ?_
    match rs, hvl with
    | [], _ => exact .nil
    | [_], _ => exact List.pairwise_singleton ..
    | _ :: _ :: _, hvl => simp at hvl; (exact (a45 h2 hvl).elim)
  · rw [if_neg h2, if_neg h2]
    have hkind : keyKind' keys = pure oneType' := by
      have hall : ∀ {rs : List Row} {vs : List Value}, RelL F (rs.map fun r => .str r.1) vs → ∀ v ∈ vs, ∃ x t, v = .str x t := by
        intro rs
        induction rs with
        | nil => intro vs r v hv; cases (show vs = [] from r); cases hv
        | cons r0 rs ih =>
          rintro _ ⟨_, ws, rfl, ⟨t, rfl⟩, r⟩ v hv
          rcases List.mem_cons.mp hv with rfl | hv
          · exact ⟨_, _, rfl⟩
          · exact ih r v hv
      have hall := hall rk
      obtain ⟨v₁, v₂, rest, e⟩ : ∃ v₁ v₂ rest, keys.toList = v₁ :: v₂ :: rest := by
        have hl : 2 ≤ keys.toList.length := by rw [Array.length_toList]; (exact a48 hkl hvl h2)
        match keys.toList, hl with
        | v₁ :: v₂ :: rest, _ => exact ⟨v₁, v₂, rest, rfl⟩
      have ek : keys = (v₁ :: v₂ :: rest).toArray := by rw [← e, Array.toArray_toList]
      rw [e] at hall
      rw [ek]
      exact keyKind_strs (strsAre_map _ hall)
    rw [hkind, hz]
    refine wpAny_bind (wpAny_pure ?_)
    refine wpAny_bind (wpAny_mono (sort_core (s := s) (κ := oneType') (lo := nameLt) (J := KJ F) nameLt_swo (fun x q q' h1 h2 => row_inj h1.2 h2.2)
      (fun x y q q' h1 h2 => kj_cmp h1 h2) J (by simp; (exact a50 hkl hvl h2))
      (Q := fun _ st' => failedOf st' = none ∧ ∃ L' rs', arrOf st' = L'.toArray ∧ Paired (KJ F) L' rs' ∧ rs'.Perm rs ∧ rs'.Pairwise (fun a b => nameLt b a = false)) fun st' L' rs' k1 k2 k3 k4 k5 => ⟨k1, L', rs', k2, k3, k4, k5⟩) ?_ fun _ _ e => e)
    rintro ⟨⟨⟩, st'⟩ s' ⟨rfl, hf, L', rs', k2, k3, k4, k5⟩
    try dsimp only
    have hll : L'.length = rs'.length := by have := (kj_out k3).length; rwa [List.length_map, List.length_map] at this
    exact kTail k (by (exact a51 hkl hl)) k2 hf (by rw [hll, k4.length_eq]; exact hl) fun s' c S' h1 => h s' c _ rs' S' h1 (kj_out k3) k4 k5
theorem kRest {a kS q : Addr} {vs : List Value} {rs : List Row} {e1 : Nat} {P : Fin → Shared → Prop} (R : Rm G A F₀ s₀) (k : KAt F₀ s₀ F s a kS #[] e1) (rv : RelL F (rs.map RowV) vs) (hl : rs.length ≤ 10000) (hc : ∀ r ∈ rs, ∀ A F s E vs, Rm G A F s → RelL F [RowV r] vs → wpAny G.M A (call (.ref q) vs) (PV F s (.str r.1)) E s)
    (h : ∀ (s' : Shared) (F' : Fz) (c : Nat) (out : List Value) (rs' : List Row), St N0 F₀ s₀ F' s' → F' a = none → s'.heap.get? a = some (seqObj "list" (List.toArray out) c) → RelL F' (rs'.map RowV) out → rs'.Perm rs → rs'.Pairwise (fun a b => nameLt b a = false) → P (.done (.ret .none)) s') : wpAny G.M A (ksk_rest a (.ref q) false vs.toArray e1 (.ref kS)) P E s := by
  have hvl : vs.length = rs.length := by have := rv.length; simpa using this
  unfold ksk_rest
  refine wpAny_bind (wpAny_rule ?_)
  first
    | rw [List.forIn_toArray]
    | (rw [← Array.forIn_toList]; simp only [List.toList_toArray])
    | rw [← Array.forIn_toList]
  refine wpAny_bind (ksk_fold (fun i s' => ∃ F' kA, KAt F₀ s₀ F' s' a kS kA e1 ∧ RelL F' (rs.map RowV) vs ∧ RelL F' ((rs.take i).map fun r => .str r.1) kA.toList) vs 0 s ⟨F, #[], k, rv, rfl⟩ ?step ?done)
  case step =>
    rintro j x s' hx ⟨F', kA, ⟨S', ⟨e, hk'⟩, ha', k0, a0, fk, fa, hne⟩, rv', rk'⟩
    simp only [Nat.zero_add] at rk' ⊢
    have hj : j < vs.length := (List.getElem?_eq_some_iff.mp hx).1
    obtain ⟨r, hr⟩ : ∃ r, rs[j]? = some r := ⟨_, List.getElem?_eq_getElem (by (exact a43 hj hvl))⟩
    have hrm := List.mem_of_getElem? hr
    have hkz : kA.size ≤ 10000 := by
      have := rk'.length
      rw [Array.length_toList, List.length_map, List.length_take] at this; (exact a46 this hl)
    obtain ⟨x', hx', rx⟩ := rv'.get (i := j) (x := RowV r) (by rw [List.getElem?_map, hr]; rfl)
    rw [hx] at hx'; cases hx'
    refine wpAny_bind (wpAny_attempt (wpAny_mono (hc r hrm A F' s' (fun _ _ => False) [x] (R.step S') ⟨x, [], rfl, rx, rfl⟩) (fun v s'' he => ?_) fun _ _ hF => hF.elim))
    obtain ⟨F'', S'', ry⟩ := he
    try dsimp only
    have hk2 := S''.keep _ _ hk' id (fun _ _ e => nomatch e)
    have ha2 := S''.keep _ _ ha' id (fun _ _ e => nomatch e)
    refine wpAny_bind (listUpdate_at hk2 rfl ?_ (by rw [sizeLine_eq]; (exact a39 hkz)) (Nat.le_trans (Nat.le_of_eq (Array.size_push ..)) (by rw [sizeLine_eq]; (exact a52 hkz))))
    have fk' := S''.out fk hk'
    have S3 := (S'.trans S'').priv (t := s''.toks) fk' k0 (Heap.SameBut.update s''.heap kS (Obj.mapSeq (·.push v))).extBut
    obtain ⟨c2, hc2⟩ : ∃ c2, (s''.heap.update kS (Obj.mapSeq (·.push v))).get? kS = some (seqObj "list" (kA.push v) c2) := ⟨_, get?_update_seq hk2 (·.push v)⟩
    have et : rs.take (j + 1) = rs.take j ++ [r] := by
      obtain ⟨hi, e⟩ := List.getElem?_eq_some_iff.mp hr
      rw [List.take_succ_eq_append_getElem hi, e]
    refine wpAny_pure ⟨rfl, F'', kA.push v, ⟨S3, ⟨c2, hc2⟩, ((Heap.SameBut.update s''.heap kS (Obj.mapSeq (·.push v))).2 a hne).trans ha2, k0, a0, fk', S''.out fa ha', hne⟩, rv'.mono S''.up, ?_⟩
    rw [et, List.map_append, Array.toList_push]
    exact (rk'.mono S''.up).append (.one ry)
  case done =>
    rintro s' ⟨F', kA, k', rv', rk'⟩
    have et : rs.take (0 + vs.length) = rs := List.take_of_length_le (by (exact a53 hvl))
    rw [et] at rk'
    try dsimp only
    obtain ⟨e, hk'⟩ := k'.k
    refine wpAny_bind (listItems_at hk' rfl ?_)
    exact kEnd k' rk' rv' hl fun s' c out rs' S h1 => h s' F' c out rs' S k'.fa h1
theorem kTree {a q : Addr} {vs : List Value} {rs : List Row} {n : Nat} {P : Fin → Shared → Prop} (R : Rm G A F₀ s₀) (S : St N0 F₀ s₀ F s) (ha : s.heap.get? a = some (seqObj "list" vs.toArray n))
    (a0 : s₀.heap.get? a = none) (fa : F a = none) (rv : RelL F (rs.map RowV) vs) (hl : rs.length ≤ 10000) (hc : ∀ r ∈ rs, ∀ A F s E vs, Rm G A F s → RelL F [RowV r] vs → wpAny G.M A (call (.ref q) vs) (PV F s (.str r.1)) E s)
    (h : ∀ (s' : Shared) (F' : Fz) (c : Nat) (out : List Value) (rs' : List Row), St N0 F₀ s₀ F' s' → F' a = none → s'.heap.get? a = some (seqObj "list" (List.toArray out) c) → RelL F' (rs'.map RowV) out → rs'.Perm rs → rs'.Pairwise (fun a b => nameLt b a = false) → P (.done (.ret .none)) s') : wpAny G.M A (ksk_tree a (.ref q) false) P E s := by
  have hvl : vs.length = rs.length := by have := rv.length; simpa using this
  unfold ksk_tree
  refine wpAny_bind (listItems_at ha rfl ?_)
  refine wpAny_bind (listUpdate_at ha rfl ?_ (by rw [List.size_toArray, sizeLine_eq]; (exact a42 hvl hl)) (Nat.zero_le _))
  obtain ⟨e1, ha1⟩ : ∃ e1, (s.heap.update a (Obj.mapSeq fun _ => (#[] : Array Value))).get? a = some (seqObj "list" #[] e1) := ⟨_, get?_update_seq ha fun _ => #[]⟩
  have S1 := S.priv (t := s.toks) fa a0 (Heap.SameBut.update s.heap a (Obj.mapSeq fun _ => (#[] : Array Value))).extBut
  refine wpAny_bind (seqEpoch_at ha1 rfl ?_)
  refine wpAny_bind (wpAny_newTuple ?_ (by show vs.length ≤ _; rw [sizeLine_eq]; (exact a42 hvl hl)))
  refine wpAny_bind (wpAny_newList ?_ (Nat.zero_le _))
  refine wpAny_holding ?_
  generalize s.heap.update a (Obj.mapSeq fun _ => (#[] : Array Value)) = h1 at *
  have S2 : St N0 F₀ s₀ F { s with heap := h1.push (seqObj "tuple" vs.toArray 0) } := S1.trans (St.grow (t := s.toks) S1.sub fun b o e => Heap.get?_push_of_some _ e)
  have hk0 : (h1.push (seqObj "tuple" vs.toArray 0)).get? (h1.push (seqObj "tuple" vs.toArray 0)).objs.size = none := size_none _
  have ha2 : (h1.push (seqObj "tuple" vs.toArray 0)).get? a = some (seqObj "list" #[] e1) := Heap.get?_push_of_some _ ha1
  have hne : a ≠ (h1.push (seqObj "tuple" vs.toArray 0)).objs.size := fun e => by rw [← e, ha2] at hk0; cases hk0
  have S3 : St N0 F₀ s₀ F { s with heap := (h1.push (seqObj "tuple" vs.toArray 0)).push (seqObj "list" #[] 0) } := S2.trans (St.grow (t := s.toks) S2.sub fun b o e => Heap.get?_push_of_some _ e)
  have fk : F (h1.push (seqObj "tuple" vs.toArray 0)).objs.size = none := by
    cases q : F (h1.push (seqObj "tuple" vs.toArray 0)).objs.size with
    | none => rfl
    | some o => exact nomatch hk0.symm.trans (S2.sub _ _ q)
  exact kRest (s := { s with heap := (h1.push (seqObj "tuple" vs.toArray 0)).push (seqObj "list" #[] 0) }) R ⟨S3, ⟨_, Heap.get?_push_size _ rfl⟩, Heap.get?_push_of_some _ ha2, S2.dead hk0, a0, fk, fa, hne⟩ rv hl hc h
theorem sortedK_ok {l q : Addr} {vs : List Value} {rs : List Row} {z : V} (R : Rm G A.in1.in1 F s) (hv : s.heap.IsList l vs.toArray) (rv : RelL F (rs.map RowV) vs) (hl : rs.length ≤ 10000) (hc : ∀ r ∈ rs, ∀ A F s E vs, Rm G A F s → RelL F [RowV r] vs → wpAny G.M A (call (.ref q) vs) (PV F s (.str r.1)) E s)
    (h : ∀ rs' : List Row, rs'.Perm rs → rs'.Pairwise (fun a b => nameLt b a = false) → z = .lst (rs'.map RowV)) : wpAny G.M A (call (.builtin "sorted") [.ref l] [(Str.ofString "key", .ref q)]) (PV F s z) E s := by
  have hvl : vs.length = rs.length := by have := rv.length; simpa using this
  refine call_function_entry_kw kind_sorted plain_sorted entry_sorted (ksk_s1 _ _) ?_
  unfold Builtin.«sorted»
  refine wpAny_bind (m := checkCount "sorted" 1 1 _) (wpAny_pure ?_)
  refine wpAny_bind (collect_list hv ?_ (by rw [sizeLine_eq]; (exact a42 hvl hl)))
  refine wpAny_bind (wpAny_newList ?_ (by rw [sizeLine_eq]; (exact a42 hvl hl)))
  have hsz : ((s.heap.push (seqObj "list" #[] 0)).update s.heap.objs.size (Obj.mapSeq (· ++ vs.toArray))).objs.size = s.heap.objs.size + 1 := by
    rw [Heap.size_update, size_push']
  have keep : ∀ b o, s.heap.get? b = some o → (((s.heap.push (seqObj "list" #[] 0)).update s.heap.objs.size (Obj.mapSeq (· ++ vs.toArray))).push (seqObj "list" vs.toArray 0)).get? b = some o := fun b o q => by
    have hlt : b < s.heap.objs.size := Heap.lt_size q
    rw [Heap.get?_push_ne _ _ _ (by rw [hsz]; exact Nat.ne_of_lt (Nat.lt_succ_of_lt hlt)), Heap.get?_update_ne _ _ _ _ (Nat.ne_of_lt hlt), Heap.get?_push_ne _ _ _ (Nat.ne_of_lt hlt)]
    exact q
  have hoL : (((s.heap.push (seqObj "list" #[] 0)).update s.heap.objs.size (Obj.mapSeq (· ++ vs.toArray))).push (seqObj "list" vs.toArray 0)).get? (s.heap.objs.size + 1) = some (seqObj "list" vs.toArray 0) := by
    rw [← hsz]; exact Heap.get?_push_size _ rfl
  have hn : s.heap.get? (s.heap.objs.size + 1) = none := Heap.get?_none_of_le (Nat.le_succ _)
  show wpAny _ _ _ _ _ { s with heap := ((s.heap.push (seqObj "list" #[] 0)).update s.heap.objs.size (Obj.mapSeq (· ++ vs.toArray))).push (seqObj "list" vs.toArray 0) }
  rw [hsz]
  refine wpAny_bind (wpAny_holding (wpAny_call_entry_kw slot_list_sort ⟨_, hoL, rfl⟩ entry_list_sort ?body (ksk_l1 _ _)))
  case body =>
    show wpAny G.M A.in1.in1 (Builtin.«list.sort» ⟨[.ref (s.heap.objs.size + 1)], [(Str.ofString "key", .ref q)]⟩) _ _ _
    rw [ksk_t1]
    refine kTree (s := { s with heap := ((s.heap.push (seqObj "list" #[] 0)).update s.heap.objs.size (Obj.mapSeq (· ++ vs.toArray))).push (seqObj "list" vs.toArray 0) }) (s₀ := s) (F₀ := F) R (St.grow (t := s.toks) R.sub keep) hoL hn (R.out hn) rv hl hc fun s' F' c out rs' S' f1 h1 h2 h3 h4 => ⟨_, rfl, ?_⟩
    cases h rs' h3 h4
    exact wpAny_pure ⟨_, rfl, _, S'.freeze hn h1 f1, _, out, rfl, ⟨c, Fz.add_self⟩, h2.mono fun b o e => (if_neg (by rintro rfl; exact nomatch f1.symm.trans e)).trans e⟩
theorem ev_sortedK {K : Sx} {ρ : List V} {σ : Ow} {e : PySem.Expr} {f : Str} {q hp kp p : Pos} {rs : List Row} {z : V} (is : ∃ o fd, G.mg f = some (.ref (G.fn f)) ∧ G.B.get? (G.fn f) = some o ∧ o.data = .func fd) (hc : ∀ r ∈ rs, Pure G.dn f [RowV r] (.str r.1)) (hd : 0 < G.d) (h1 : Ev G K ρ σ e (.lst (rs.map RowV))) (hl : rs.length ≤ 10000)
    (h : ∀ rs' : List Row, rs'.Perm rs → rs'.Pairwise (fun a b => nameLt b a = false) → z = .lst (rs'.map RowV)) (hs : notStar e = true := by rfl) (hg : globOK K "sorted" = true := by decide +kernel) (hf : globOK K f = true := by decide +kernel) : Ev G K ρ σ (.Call (.Name "sorted" q) [e] [⟨some "key", .Name f hp, kp⟩] p) z := fun A env F s E k => by
  obtain ⟨o, fd, hm, ho, hfd⟩ := is
  refine wpAny_Call_Name_kw (name_global k (.inr (k.rm.go.blt 7 _ _ rfl)) hg ?_)
  have hst : backTo p (starEach [e] env) = [(false, eval e env)] := back_star p env (by rw [List.all_cons, hs]; rfl)
  refine callWith_kw ?_ hst (by rw [hst]; rfl) rfl rfl
  rw [hst]
  refine Calls.spliced_cons (h1.bind k fun v F₁ s₁ S₁ r₁ k₁ => Calls.spliced_nil ?_)
  refine kws_cons (name_global k₁ (.inl hm) hf (kws_nil ?_))
  show wpAny G.M A (call (.builtin "sorted") [v] [(Str.ofString "key", .ref (G.fn f))]) _ _ s₁
  obtain ⟨a, us, rfl, hu, hn, rl⟩ := lst_list k₁.rm r₁
  refine wp_from S₁ (sortedK_ok (G := G.dn) ⟨⟨k.rm.go.g, k.rm.go.b, k.rm.go.nolimit, k.rm.go.blt⟩, k₁.rm.base, k₁.rm.sub, ?_, ?_, k₁.rm.handled, k₁.rm.frames⟩ hu rl hl (fun r hr => (hc r hr).run) h)
  · have := k.rm.depth; show A.depth + (G.d - 1) ≤ _; (exact a47 this hd)
  · have := k.rm.units; show A.units + 1 + 1 + 10 * (G.d - 1) + 100 ≤ _; (exact a49 this hd)
end
end Mine

set_option autoImplicit false
set_option linter.all false
set_option genSizeOf false
set_option genInjectivity false
set_option maxRecDepth 100000
namespace Mine
open PySem PyProof.Rows PySem.W
def Cov (F : Fz) (s : Shared) (B h : Heap) : Prop := (∀ a o, F a = some o → B.get? a = some o) ∧ ∀ b o, s.heap.get? b = some o → ∃ o', h.get? b = some o' ∧ (B.get? b = some o' ∨ ∃ es n, o'.data = .dict es n)
section
variable {D : Addr → Prop} {F F₁ F' : Fz} {s s₁ s' : Shared} {B h : Heap}
theorem Cov.from (c : Cov F' s₁ B h) (S : St D F s F₁ s₁) : Cov F' s B h := ⟨c.1, fun b o e => (S.live b o e).elim fun o' q => c.2 b o' q.1⟩
theorem fly_step (S : St D F s F' s') (c : Cov F' s B s'.heap) (st : B.StaysIn h) (u : s'.heap.UpToSlots h) : St D F s F' { s' with heap := h } ∧ Cov F' s B h := by
  have key : ∀ b o o', s.heap.get? b = some o → s'.heap.get? b = some o' → (h.get? b = some o' ∧ B.get? b = some o') ∨ ∃ sl, h.get? b = some { o' with slots := sl } ∧ ∃ es n, o'.data = .dict es n := fun b o o' e e' => by
    obtain ⟨o'', h1, h2⟩ := c.2 b o e
    cases e'.symm.trans h1
    rcases h2 with h2 | ⟨es, n, hd⟩
    · exact .inl ⟨st b _ h2, h2⟩
    · exact .inr ((u b _ e' fun vs q => nomatch hd.symm.trans q).imp fun sl q => ⟨q, es, n, hd⟩)
  refine ⟨⟨S.up, fun a o e => st a o (c.1 a o e), fun b o e d => ?_, fun b o e => ?_, S.new, by rw [S.rest]⟩, c.1, fun b o e => ?_⟩
  · obtain ⟨o', h1, h2⟩ := S.keepO b o e d
    rcases key b o o' e h1 with q | ⟨sl, q, hd⟩
    · exact ⟨o', q.1, h2⟩
    · exact ⟨_, q, h2.trans (.inr ⟨hd, sl, rfl⟩)⟩
  · obtain ⟨o', h1, h2⟩ := S.live b o e
    rcases key b o o' e h1 with q | ⟨sl, q, hd⟩
    · exact ⟨o', q.1, h2⟩
    · exact ⟨_, q, h2.trans fun _ _ e => ⟨_, _, e⟩⟩
  · obtain ⟨o', h1, _⟩ := c.2 b o e
    rcases key b o o' e h1 with q | ⟨sl, q, es, n, hd⟩
    · exact ⟨o', q.1, .inl q.2⟩
    · exact ⟨_, q, .inr ⟨es, n, hd⟩⟩
end
def ExcAt (B : Heap) (l : List Env) (e : Addr) (cls : Value) (L : Addr) (h : Heap) : Prop := B.StaysIn h ∧ B.get? e = none ∧ h.FunFrames B l ∧
  ((∃ oe vs a0, h.get? e = some oe ∧ oe.cls = cls ∧ oe.data = .fields vs ∧ vs[0]? = some a0 ∧ vs[1]? = some .none) ∨ ∃ a0 fl, h.TracedAtW B e cls a0 fl ∧ (fl = .none ∨ fl = rawInt L))
inductive PX (G : Gl) (K : Sx) (A : Around) (env : Env) (σ : Ow) (F : Fz) (s : Shared) (C : Addr) (v : Value) (s' : Shared) : Prop
  | mk (e : Addr) (ρ₁ : List V) (σ₁ : Ow) (F₁ : Fz) (s₁ : Shared) (F' : Fz) (B : Heap) (L : Addr) (outer : List Env) (hv : v = .ref e) (hfr : A.frames = some (env :: outer)) (hf : env.frame = some L) (k : FOk G K A env ρ₁ σ₁ F₁ s₁) (l : Lk env σ F s σ₁ F₁ s₁) (S : St N0 F₁ s₁ F' s') (c : Cov F' s₁ B s'.heap) (x : ExcAt B (env :: outer) e (.ref C) L s'.heap)
inductive PE (A : Around) (F : Fz) (s : Shared) (C : Addr) (v : Value) (s' : Shared) : Prop
  | mk (e : Addr) (F' : Fz) (B : Heap) (a0 : Value) (l : List Env) (hv : v = .ref e) (hfr : A.frames = some l) (S : St N0 F s F' s') (c : Cov F' s B s'.heap) (x : Heap.FlyingW B l e (.ref C) a0 s'.heap)
structure Hld (G : Gl) (K : Sx) (A : Around) (env : Env) (σ : Ow) (F : Fz) (s : Shared) (e : Addr) (ρ₁ : List V) (σ₁ : Ow) (F₁ : Fz) (s₁ : Shared) (F' : Fz) (B : Heap) (outer : List Env) (s' : Shared) : Prop where
  hfr : A.frames = some (env :: outer)
  k : FOk G K A env ρ₁ σ₁ F₁ s₁
  l : Lk env σ F s σ₁ F₁ s₁
  S : St N0 F₁ s₁ F' s'
  c : Cov F' s₁ B s'.heap
section
variable {M : Model} {G : Gl} {K : Sx} {A : Around} {env : Env} {σ : Ow} {F : Fz} {s s' : Shared} {C : Addr} {v : Value} {E : Value → Shared → Prop} {Q : Unit → Shared → Prop}
theorem Hld.turn {e : Addr} {ρ₁ : List V} {σ₁ : Ow} {F₁ : Fz} {s₁ : Shared} {F' : Fz} {B h : Heap} {outer : List Env} (H : Hld G K A env σ F s e ρ₁ σ₁ F₁ s₁ F' B outer s') (st : B.StaysIn h) (u : s'.heap.UpToSlots h) : Hld G K A env σ F s e ρ₁ σ₁ F₁ s₁ F' B outer { s' with heap := h } :=
  ⟨H.hfr, H.k, H.l, (fly_step H.S H.c st u).1, (fly_step H.S H.c st u).2⟩
theorem px_note (h : PX G K A env σ F s C v s') (k : ∀ e ρ₁ σ₁ F₁ s₁ F' B L outer a0 h', v = .ref e → env.frame = some L → Hld G K A env σ F s e ρ₁ σ₁ F₁ s₁ F' B outer { s' with heap := h' } → Heap.HeldW B (env :: outer) e (.ref C) a0 L h' → Q () { s' with heap := h' }) :
    wpAny M A (noteFrame v env) Q E s' := by
  obtain ⟨e, ρ₁, σ₁, F₁, s₁, F', B, L, outer, rfl, hfr, hf, k₁, l, S, c, st, hen, ff, x⟩ := h
  have H : Hld G K A env σ F s e ρ₁ σ₁ F₁ s₁ F' B outer s' := ⟨hfr, k₁, l, S, c⟩
  rcases x with ⟨oe, vs, a0, he, hc, hd, h0, h1⟩ | ⟨a0, fl, ht, rfl | rfl⟩
  · unfold noteFrame
    simp only [hf]
    refine wpAny_bind (wpAny_field he hd h1 ?_)
    rw [if_neg (by decide)]
    refine wpAny_entryW hfr ff hf he st hen hd (Array.getElem?_eq_some_iff.mp h1).1 h0 fun h' ⟨x1, x2, x3, x4⟩ => ?_
    exact k e _ _ _ _ _ B L outer a0 h' rfl hf (H.turn x1 x4) ⟨x1, hen, x2, hc ▸ x3⟩
  · refine wpAny_looks_onW hfr hf ⟨st, hen, ff, ht⟩ fun h' hh u => ?_
    exact k e _ _ _ _ _ B L outer a0 h' rfl hf (H.turn hh.1 u) hh
  · exact wpAny_noteFrame_againW hf ht (k e _ _ _ _ _ B L outer a0 s'.heap rfl hf H ⟨st, hen, ff, ht⟩)
theorem px_leave (h : PX G K A env σ F s C v s') (k : ∀ e ρ₁ σ₁ F₁ s₁ F' B outer a0 h', v = .ref e → Hld G K A env σ F s e ρ₁ σ₁ F₁ s₁ F' B outer { s' with heap := h' } → Heap.FlyingW B outer e (.ref C) a0 h' → Q () { s' with heap := h' }) :
    wpAny M A (leaving env v) Q E s' := by
  unfold leaving
  refine wpAny_bind (px_note h fun e ρ₁ σ₁ F₁ s₁ F' B L outer a0 h₁ hv hf H hh => ?_)
  subst hv
  refine wpAny_landsW hh fun h₂ hfl u => ?_
  have H₂ := H.turn hfl.1 u
  obtain ⟨k1, k2, ⟨_, _, k3⟩, k4⟩ := hfl
  exact k e _ _ _ _ _ B outer a0 h₂ rfl H₂ ⟨k1, k2, k3, k4⟩
theorem px_loop (h : PX G K A env σ F s C v s') : notedBy M A env (cameBackBy M A env (PX G K A env σ F s C)) v s' := by
  unfold notedBy
  refine px_note h fun e ρ₁ σ₁ F₁ s₁ F' B L outer a0 h₁ hv hf H hh => ?_
  subst hv
  unfold cameBackBy
  obtain ⟨x1, x2, x3, oe, vs, T, oT, ts, t1, t2, t3, t4, t5, t6, t7, t8, t9⟩ := hh
  refine wpAny_bind (wpAny_field t1 t3 t4 ?_)
  rw [if_neg (show ¬ ((Value.ref T == Value.none) = true) from by simp), hf]
  unfold setFlight
  refine wpAny_bind (wpAny_field t1 t3 t4 ?_)
  rw [if_pos (show (Value.ref T != Value.none) = true from by simp)]
  have hlt : 3 < ts.size := (Array.getElem?_eq_some_iff.mp t9).1
  refine wpAny_setField t7 t8 hlt ?_
  have other : ∀ b, b ≠ T → (h₁.update T (Obj.mapFields (·.setIfInBounds 3 ((some L : Option Addr).elim Value.none fun f => rawInt f)))).get? b = h₁.get? b := fun b hb => Heap.get?_update_other _ _ (Ne.symm hb)
  have noRec : ∀ b o, h₁.get? b = some o → (∀ vs, o.data ≠ .fields vs) → b ≠ T := fun b o hb hn q => by
    rw [q, t7] at hb; cases hb; exact hn ts t8
  have st : B.StaysIn (h₁.update T (Obj.mapFields (·.setIfInBounds 3 ((some L : Option Addr).elim Value.none fun f => rawInt f)))) := fun b o hb => (other b fun q => by rw [q, t5] at hb; cases hb).trans (x1 b o hb)
  have H₂ := H.turn st fun b o hb hn => ⟨o.slots, (other b (noRec b o hb hn)).trans hb⟩
  exact ⟨e, ρ₁, σ₁, F₁, s₁, F', B, L, outer, rfl, H.hfr, hf, H.k, H.l, H₂.S, H₂.c, st, x2, x3.of_keeps fun b o hb hn => ⟨o, (other b (noRec b o hb hn)).trans hb, rfl⟩, .inr ⟨a0, rawInt L, ⟨oe, vs, T, _, _, (other e (Ne.symm t6)).trans t1, t2, t3, t4, t5, t6, Heap.get?_update_self _ t7 (Obj.isFreed_of_fields (Obj.data_mapFields t8 _)), Obj.data_mapFields t8 _, by simp [hlt]⟩, .inr rfl⟩⟩
end
def WR (G : Gl) (K : Sx) (ss : List Stmt) (ρ : List V) (σ : Ow) (C : Addr) : Prop :=
  ∀ A env F s, FOk G K A env ρ σ F s → wpAny G.M A (execs ss env) (fun _ _ => False) (PX G K A env σ F s C) s
structure Rz (G : Gl) (f : Str) (xs : List V) (C : Addr) : Prop where
  is : ∃ o fd, G.mg f = some (.ref (G.fn f)) ∧ G.B.get? (G.fn f) = some o ∧ o.data = .func fd
  run : ∀ A F s vs, Rm G A F s → RelL F xs vs → wpAny G.M A (call (.ref (G.fn f)) vs) (fun _ _ => False) (PE A F s C) s
def vbm : List Value := [.type "ValueError", .type "Exception", .type "BaseException", .type "object"]
abbrev XC (G : Gl) (x : Str) (C : Addr) : Prop := OwnClsQ x C vbm "ValueError.__new__" G.mg G.B
theorem exec_of_execs {M : Model} {A : Around} {st : Stmt} {env : Env} {Q : Flow → Shared → Prop} {E : Value → Shared → Prop} {s : Shared} (h : wpAny M A (execs [st] env) Q E s) : wpAny M A (exec st env) Q E s := fun Γ p hΓ => by
  have := h Γ p hΓ
  rw [execs_cons, Sem.wp_bind'] at this
  refine Sem.wp_mono M Γ _ (fun f p' s' h' => ?_) (fun _ _ _ h' => h') _ _ this
  cases f <;> exact h'
section
variable {G : Gl} {K : Sx} {A : Around} {env : Env} {ρ : List V} {σ σ₁ : Ow} {F F₁ : Fz} {s s₁ : Shared} {ss : List Stmt} {st : Stmt} {C : Addr} {p q q' pc : Pos} {e c : PySem.Expr} {es : List PySem.Expr} {x : V} {xs : List V} {b : Bool} {f : Str}
theorem PX.from {v : Value} {s' : Shared} (L : Lk env σ F s σ₁ F₁ s₁) (h : PX G K A env σ₁ F₁ s₁ C v s') : PX G K A env σ F s C v s' :=
  h.casesOn fun e ρ₂ σ₂ F₂ s₂ F' B Lc outer hv hfr hf k l S c x => ⟨e, ρ₂, σ₂, F₂, s₂, F', B, Lc, outer, hv, hfr, hf, k, L.trans l, S, c, x⟩
theorem wr_from {t : Sem Flow} {Q : Flow → Shared → Prop} {M : Model} (L : Lk env σ F s σ₁ F₁ s₁) (h : wpAny M A t Q (PX G K A env σ₁ F₁ s₁ C) s₁) : wpAny M A t Q (PX G K A env σ F s C) s₁ := wpAny_mono h (fun _ _ q => q) fun _ _ q => q.from L
theorem wr_seq (h : WS G K [st] ρ σ fun fl ρ' σ' => fl = .next ∧ WR G K ss ρ' σ' C) : WR G K (st :: ss) ρ σ C := fun A env F s k =>
  wpAny_execs_cons (wpAny_mono (exec_of_execs (h A env F s _ k)) (fun f s₁ h' => h'.casesOn fun fl ρ' σ' F' hf k' L q' => by
    cases q'.1
    cases f <;> first | exact hf.elim | skip
    exact wr_from L (q'.2 A env F' s₁ k')) fun _ _ e => e)
theorem wr_here (h : ∀ A env F s, FOk G K A env ρ σ F s → wpAny G.M A (exec st env) (fun _ _ => False) (PX G K A env σ F s C) s) : WR G K (st :: ss) ρ σ C := fun A env F s k =>
  wpAny_execs_cons (wpAny_mono (h A env F s k) (fun _ _ q => q.elim) fun _ _ e => e)
theorem wr_if {a b' : List Stmt} (h1 : Tr G K ρ σ c b) (ht : b = true → WR G K a ρ σ C) (hf : b = false → WR G K b' ρ σ C) : WR G K (.If c a b' p :: ss) ρ σ C :=
  wr_here fun A env F s k => wpAny_If (h1.bind k.e fun F₁ s₁ S k₁ => by
    cases b
    · exact wr_from S.lk (hf rfl A env F₁ s₁ (k.step S))
    · exact wr_from S.lk (ht rfl A env F₁ s₁ (k.step S)))
theorem px_of_pe {v : Value} {s' : Shared} (k : FOk G K A env ρ σ F s) (h : PE A F s C v s') : PX G K A env σ F s C v s' :=
  h.casesOn fun e F' B a0 l hv hfr S c x => by
    obtain ⟨outer, hA⟩ := k.top
    cases hA.symm.trans hfr
    obtain ⟨l, hl, fr⟩ := k.e.rm.frames
    cases hA.symm.trans hl
    obtain ⟨_, L, hL, _⟩ := fr env (List.mem_cons_self ..)
    exact ⟨e, ρ, σ, F, s, F', B, L, outer, hv, hA, hL, k, (St.refl k.e.rm.sub).lk, S, c, x.1, x.2.1, x.2.2.1, .inr ⟨a0, .none, x.2.2.2, .inl rfl⟩⟩
theorem rz_call {Q : Value → Shared → Prop} (h : Rz G f xs C) (ha : EvL G K ρ σ es xs) (k : FOk G K A env ρ σ F s) (hs : es.all notStar = true) (hg : globOK K f = true) : wpAny G.M A (eval (.Call (.Name f q') es [] pc) env) Q (PX G K A env σ F s C) s := by
  obtain ⟨o, fd, hf, ho, hfd⟩ := h.is
  refine wpAny_Call_NameR (name_global k.e (.inl hf) hg ?_)
  rw [back_star pc env hs]
  refine Calls.callWith_function (evalArgs_list (all_false es env) (ha.bind k.e fun vs F₁ s₁ S₁ r₁ k₁ => ⟨⟨k₁.rm.in _ _ ho, hfd⟩, wpAny_mono (h.run A F₁ s₁ vs k₁.rm r₁) (fun _ _ q => q.elim) fun v s' q => ?_⟩))
  exact (px_of_pe (k.step S₁) q).from S₁.lk
theorem wr_call (h : Rz G f xs C) (ha : EvL G K ρ σ es xs) (hs : es.all notStar = true := by rfl) (hg : globOK K f = true := by decide +kernel) : WR G K (.Expr (.Call (.Name f q') es [] pc) p :: ss) ρ σ C :=
  wr_here fun A env F s k => wpAny_Expr_any (rz_call h ha k hs hg) (by unfold interactive; rw [k.e.kind]; rfl) rfl
theorem wr_asg {n : Str} (h : Rz G f xs C) (ha : EvL G K ρ σ es xs) (hs : es.all notStar = true := by rfl) (hg : globOK K f = true := by decide +kernel) : WR G K (.Assign [.Name n q] (.Call (.Name f q') es [] pc) p :: ss) ρ σ C :=
  wr_here fun A env F s k => wpAny_Assign_Name (rz_call h ha k hs hg) rfl
theorem mem_frames {b : Addr} {l : List Env} (h : b ∈ l.filterMap (·.frame)) : ∃ env ∈ l, env.frame = some b := List.mem_filterMap.mp h
theorem fun_frames {B h : Heap} {l : List Env} (fr : FrOk F h l) (hB : ∀ L, F L = none → (∃ env ∈ l, env.frame = some L) → B.get? L = none) : h.FunFrames B l := by
  induction l with
  | nil => trivial
  | cons env r ih =>
    obtain ⟨hk, L, hf, hF, o, es, n, ho, hd⟩ := fr env (List.mem_cons_self ..)
    exact ⟨hk, ⟨L, o, hf, hB L hF ⟨env, List.mem_cons_self .., hf⟩, ho, fun vs q => nomatch hd.symm.trans q⟩, ih (fun e m => fr e (List.mem_cons_of_mem _ m)) fun L hF q => hB L hF (q.imp fun e t => ⟨List.mem_cons_of_mem _ t.1, t.2⟩)⟩
theorem wr_raise {n : Str} {a : Str} {kk : Nat} {pa : Pos} (X : XC G n C) (hg : globOK K n = true := by decide +kernel) : WR G K (.Raise (some (.Call (.Name n q) [.Constant (.str a) kk pa] [] pc)) none p :: ss) ρ σ C :=
  wr_here fun A env F s k => by
    obtain ⟨tl, N, nm, qn, bs, hdct, sn, sub, ab, col, dd, k0, k1, k2, k3, k5, mN, hC, hN, hni, T⟩ := X.own.obj
    refine wpAny_Raise_call_subU (C := C) (nm := nm) (q := qn) (N := N) (bs := bs) (bm := tl) (hdct := hdct) (sn := sn) (sub := sub) (ab := ab) (col := col) (dd := dd) (k0 := k0) (k1 := k1) (k2 := k2) (k3 := k3) (k5 := k5)
      (Fn := PySem.F.excBase_ValueError) (hBn := by decide +kernel) (F := PySem.F.excBase_ValueError) (mN := mN) (T.hasType (by decide +kernel)) k.e.rm.handled (by rw [back_star pc env rfl]; rfl) hni (name_global k.e (.inl X.own.bound) hg ⟨rfl, ?_⟩)
    rw [back_star pc env rfl]
    refine Calls.evalArgs_plain (Calls.spliced_cons (ev_str.bind k.e fun v F₁ s₁ S₁ r₁ k₁ => Calls.spliced_nil ?_))
    refine ⟨rfl, show 1 ≤ sizeLine by decide, k₁.rm.in _ _ hC, hN.keeps k₁.rm.in, T.keeps k₁.rm.in, fun h' e hm => ?_⟩
    obtain ⟨outer, hA⟩ := k.top
    obtain ⟨l, hl, fr⟩ := k₁.rm.frames
    cases hA.symm.trans hl
    obtain ⟨_, L, hL, _⟩ := fr env (List.mem_cons_self ..)
    obtain ⟨t, he, _, _⟩ := hm.there
    -- the base: all but the frames
    let B := hideAll s₁.heap ((env :: outer).filterMap (·.frame))
    have gB : ∀ b o, s₁.heap.get? b = some o → (∃ env' ∈ env :: outer, env'.frame = some b) ∨ B.get? b = some o := fun b o e => (Classical.em (b ∈ (env :: outer).filterMap (·.frame))).imp mem_frames fun m => hideAll_get _ e m
    have st : B.StaysIn h' := fun b o e => hm.keeps b o (of_hideAll _ e)
    have kp : St N0 F₁ s₁ F₁ { s₁ with heap := h' } := .grow (t := s₁.toks) k₁.rm.sub hm.keeps
    refine ⟨e, ρ, σ, F₁, s₁, F₁, B, L, outer, rfl, hA, hL, k.step S₁, S₁.lk, kp, ⟨fun a o ea => ?_, fun b o eb => ?_⟩, st, ?_, ?_, .inl ⟨_, _, .ref t, he, rfl, rfl, rfl, rfl⟩⟩
    · refine (gB a o (k₁.rm.sub a o ea)).elim (fun q => ?_) id
      obtain ⟨env', m, hf⟩ := q
      obtain ⟨_, L', hf', hF, _⟩ := fr env' m
      cases hf.symm.trans hf'
      exact nomatch hF.symm.trans ea
    · refine ⟨o, hm.keeps _ _ eb, (gB b o eb).elim (fun q => .inr ?_) .inl⟩
      obtain ⟨env', m, hf⟩ := q
      obtain ⟨_, L', hf', _, o', es, n, ho, hd⟩ := fr env' m
      cases hf.symm.trans hf'
      cases eb.symm.trans ho
      exact ⟨es, n, hd⟩
    · cases hq : B.get? e with
      | none => rfl
      | some o => exact nomatch hm.new.symm.trans (of_hideAll _ hq)
    · exact fun_frames (fun env' m => (fr env' m).imp id fun t => t.imp fun _ t => ⟨t.1, t.2.1, t.2.2.imp fun _ t => t.imp fun _ t => t.imp fun _ t => ⟨hm.keeps _ _ t.1, t.2⟩⟩) fun L _ q => hideAll_none _ (List.mem_filterMap.mpr (q.imp fun _ t => t))
theorem rzO_of {np : Nat} {sts : List Stmt} {fa : Addr} (FA : FnO G.B fa K np sts) (hlen : xs.length = np) (hd : 0 < G.d) (h : WR G.dn K sts (xs ++ List.replicate (K.ns.length - np) .unb) σ0 C) : ∀ A F s vs, Rm G A F s → RelL F xs vs → wpAny G.M A (call (.ref fa) vs) (fun _ _ => False) (PE A F s C) s := fun A F s vs k r =>
  wpAny_call (enter_core FA hlen hd k r (σ := σ0) (fun _ _ q => nomatch q) fun env s₁ k₁ S₁ hown _ => by
    obtain ⟨l, hl, _⟩ := k.frames
    refine wpAny_mono (h _ _ _ _ k₁) (fun _ _ q => q.elim) fun v s' q => px_leave q fun e ρ₂ σ₂ F₂ s₂ F' B outer a0 h' hv H x => ?_
    cases (Around.frames_deeper hl).symm.trans H.hfr
    exact ⟨e, F', B, a0, l, hv, hl, S₁.then (H.l.trans H.S.lk).S fun b o e q => q.elim (fun q => nomatch e.symm.trans (hown b q)) fun q => q.elim fun _ q => (nomatch q.1), (H.c.from H.l.S).from S₁, x⟩)
theorem rz_of {np : Nat} {sts : List Stmt} (FA : FnAt G.B G.mg f K np sts) (hlen : xs.length = np) (hd : 0 < G.d) (h : WR G.dn K sts (xs ++ List.replicate (K.ns.length - np) .unb) σ0 C) : Rz G f xs C :=
  ⟨FA.obj.imp fun _ q => q.imp fun _ q => ⟨q.1, q.2.1, q.2.2.1⟩, rzO_of FA.o hlen hd h⟩
end
end Mine

set_option autoImplicit false
set_option linter.all false
set_option genSizeOf false
set_option genInjectivity false
set_option maxRecDepth 100000
namespace Mine
open PySem PyProof.Rows PySem.W
def mroAt (mg : Str → Option Value) (h : Heap) (x t : Str) (b : Bool := true) : Prop := ∃ C T o cd, mg x = some (.ref C) ∧ mg t = some (.ref T) ∧ h.get? C = some o ∧ o.data = .cls cd ∧ cd.mro.contains (.ref T) = b
section
variable {G : Gl} {x t : Str} {C T : Addr}
end
structure SG (G : Gl) (K : Sx) (env : Env) (F : Fz) (s : Shared) : Prop where
  go : G.Ok
  base : ∀ a o, G.B.get? a = some o → F a = some o
  sub : ∀ a o, F a = some o → s.heap.get? a = some o
  sc : env.scope = K.sc
  kind : env.scope.kind = .function
  globals : env.globals = mainGlobals
  builtins : env.builtins = builtinsNs
section
variable {G : Gl} {K : Sx} {A : Around} {env : Env} {n t : Str} {e C : Addr} {F : Fz} {s : Shared} {E : Value → Shared → Prop} {c : Value} {p q q₁ q₂ q₃ q₄ : Pos} {b : Bool} {ex : PySem.Expr} {x y : V}
theorem SG.in (k : SG G K env F s) : ∀ b o, G.B.get? b = some o → s.heap.get? b = some o := fun b o h => k.sub b o (k.base b o h)
theorem SG.glob {x : Str} {Q : Value → Shared → Prop} (k : SG G K env F s) (hv : G.mg x = some c ∨ (G.mg x = none ∧ G.mb x = some c)) (h : globOK K x = true) (h2 : Q c s) : wpAny G.M A (eval (.Name x p) env) Q E s := by
  have hg := globOK_inv h
  refine Calls.Name_function_global k.kind (by show env.scope.names.lookup x = _; rw [k.sc]; exact hg.1) ?_ hg.2
  have hG : s.heap.Ns env.globals G.mg := by rw [k.globals]; exact k.go.g.keeps k.in
  exact hv.elim (fun hv => Calls.loadGlobal_global hG hv h2) fun hv => Calls.loadGlobal_builtin hG hv.1 (by rw [k.builtins]; exact k.go.b.keeps k.in) hv.2 h2
end
section
variable {G : Gl} {K : Sx} {A : Around} {env : Env} {ρ : List V} {σ : Ow} {F : Fz} {s : Shared} {E : Value → Shared → Prop} {Q : KS} {ss body : List Stmt} {C : Addr} {p np pos : Pos} {x n : Str} {z : V} {hs : List ExceptHandler} {h₀ : ExceptHandler}
theorem ws_try_ok (h : WS G K body ρ σ (Kc G K ss Q)) : WS G K (.Try body (h₀ :: hs) [] [] p :: ss) ρ σ Q :=
  ws_cons fun A env F s E k => wpAny_Try_except (wpAny_mono (h A env F s _ k) (fun f s₁ q => q.casesOn fun fl ρ' σ' F' hf k' L q => by
    cases f <;> cases fl <;> first | exact hf.elim | skip
    · exact wpAny_execs_nil ⟨.next, ρ', σ', F', trivial, k', L, q⟩
    · exact ⟨_, ρ', σ', F', hf, k', L, q⟩) fun _ _ e => e)
theorem FOk.sg (k : FOk G K A env ρ σ F s) : SG G K env F s := ⟨k.e.rm.go, k.e.rm.base, k.e.rm.sub, k.e.sc, k.e.kind, k.e.globals, k.e.builtins⟩
end
end Mine

set_option autoImplicit false
set_option linter.all false
set_option maxRecDepth 100000
namespace Mine
open PySem PyProof.Rows PySem.W
theorem mroB_at {s : Shared} {x t : Str} {b : Bool} (h : mroB s x t b = true) : mroAt (s.heap.nsMap mainGlobals) s.heap x t b := by
  unfold mroB at h
  split at h
  · rename_i C T h1 h2
    split at h
    · rename_i o h3
      split at h
      · rename_i cd h4
        exact ⟨C, T, o, cd, h1, h2, h3, h4, eq_of_beq h⟩
      · cases h
    · cases h
  · cases h
def MroP (l : List (Str × Str × Bool)) (mg : Str → Option Value) (h : Heap) : Prop := ∀ p ∈ l, mroAt mg h p.1 p.2.1 p.2.2
theorem mroP_of {l : List (Str × Str × Bool)} {s : Shared} (h : (l.all fun p => mroB s p.1 p.2.1 p.2.2) = true) : MroP l (s.heap.nsMap mainGlobals) s.heap := fun p hp => mroB_at (List.all_eq_true.mp h p hp)
theorem MroP.keeps {l : List (Str × Str × Bool)} (mg : Str → Option Value) (h h' : Heap) (x : MroP l mg h) (k : ∀ b o, h.get? b = some o → h'.get? b = some o) : MroP l mg h' := fun p hp =>
  (x p hp).imp fun _ q => q.imp fun _ q => q.imp fun _ q => q.imp fun _ q => ⟨q.1, q.2.1, k _ _ q.2.2.1, q.2.2.2⟩
theorem top_own {p : Program} {loose : List Str} {mean : ExcName → Option Value} {mg mb : Str → Option Value} {h : Heap} (T : Top p loose mean mg mb h) {x : Str} (hs : specOf p x = some ("ValueError.__new__", vbm)) : ∃ C, OwnClsQ x C vbm "ValueError.__new__" mg h := (T.ownAt hs).imp fun _ q => q.1
theorem top_val {p : Program} {loose : List Str} {mean : ExcName → Option Value} {mg mb : Str → Option Value} {h : Heap} (T : Top p loose mean mg mb h) (hk : freeChk p loose "ValueError" = true) : mg "ValueError" = none ∧ mb "ValueError" = some (.type "ValueError") :=
  (top_builtin T hk).imp id fun q => q.trans (by decide +kernel)
theorem top_sys {p : Program} {loose : List Str} {mean : ExcName → Option Value} {mg mb : Str → Option Value} {h : Heap} (T : Top p loose mean mg mb h) (hi : importsNone p = true) : ∃ o, h.get? sysModules = some o := by
  obtain ⟨mm, hm, _⟩ := (T.seer hi).mods
  exact Ns_obj hm
end Mine

set_option autoImplicit false
set_option linter.all false
set_option genSizeOf false
set_option genInjectivity false
set_option maxRecDepth 100000
namespace Mine
open PySem PyProof.Rows PySem.W
section
variable {G : Gl} {K : Sx} {A : Around} {env : Env} {ρ : List V} {σ : Ow} {F : Fz} {s : Shared} {ss body : List Stmt} {C : Addr} {p : Pos} {e t : PySem.Expr} {x : V} {xs : List V}
theorem wr_for (I : Nat → List V → Ow → Prop) (j : Nat) (hj : j < xs.length) (h1 : Ev G K ρ σ e x) (hi : itemsOf x = some xs) (h0 : I 0 ρ σ) (turn : ∀ (i : Nat) ρ σ y, i < j → xs[i]? = some y → I i ρ σ → ∃ ρ', Asg G K t y ρ ρ' ∧ WS G K body ρ' σ (Kf I (i + 1) fun _ _ _ => False))
    (last : ∀ ρ σ y, xs[j]? = some y → I j ρ σ → ∃ ρ', Asg G K t y ρ ρ' ∧ WR G K body ρ' σ C) (hns : ∀ env v, foldedSetIterable e env v = pure v := by intros; rfl) : WR G K (.For t e body [] p :: ss) ρ σ C :=
  wr_here fun A env F s k => for_core (R := fun _ _ => False) (Ex := PX G K A env σ F s C) (fun i ρ σ _ _ => i ≤ j ∧ I i ρ σ) k (St.refl k.e.rm.sub).lk (h1.bind k.e fun v F₁ s₁ S r _ => ⟨F₁, S, r, Nat.zero_le _, h0⟩) hi (fun _ _ h => px_loop h) (fun _ _ _ _ _ _ h _ => h) (fun i ρ' σ' F' s' y v hy k' L' hI hr => by
    rcases Nat.lt_or_ge i j with hlt | hge
    · obtain ⟨ρ₂, ha, hb⟩ := turn i ρ' σ' y hlt hy hI.2
      refine ha A env σ' F' s' _ v _ k' hr fun h₂ t₂ k₂ L₂ _ => wpAny_mono (hb A env F' _ _ k₂) (fun f s₃ h => h.casesOn fun fl ρ₃ σ₃ F₃ hf k₃ L₃ q => ⟨fl, ρ₃, σ₃, F₃, hf, k₃, L'.trans (L₂.trans L₃), (L₂.trans L₃).recs k', ?_, ?_⟩) fun _ _ e => e
      · rintro rfl; exact ⟨hlt, q⟩
      · rintro x rfl; exact q
    · cases Nat.le_antisymm hI.1 hge
      obtain ⟨ρ₂, ha, hb⟩ := last ρ' σ' y hy hI.2
      exact ha A env σ' F' s' _ v _ k' hr fun h₂ t₂ k₂ L₂ _ => wpAny_mono (hb A env F' _ k₂) (fun _ _ q => q.elim) fun _ _ q => q.from (L'.trans L₂)) (fun ρ' σ' F' s' _ _ hI => absurd hI.1 (Nat.not_le.mpr hj)) (hns env)
theorem execs_app {M : Model} {Γ : _} {E : Value → _ → Shared → Prop} {Q : Flow → Shared → Prop} : ∀ (as : List Stmt) p s, Sem.wp M Γ (execs as env) (fun f _ s' => match f with | .next => ∀ p', Sem.wp M Γ (execs ss env) (fun f _ s => Q f s) E p' s' | f => Q f s') E p s → Sem.wp M Γ (execs (as ++ ss) env) (fun f _ s => Q f s) E p s
  | [], p, s, h => h p
  | st :: as, p, s, h => by
    show Sem.wp M Γ (execs (st :: (as ++ ss)) env) _ E p s
    rw [execs_cons, Sem.wp_bind'] at h ⊢
    refine Sem.wp_mono M Γ _ (fun f p' s' h' => ?_) (fun _ _ _ h' => h') _ _ h
    cases f <;> first | exact execs_app as p' s' h' | exact h'
theorem wr_seqs (as : List Stmt) (h : WS G K as ρ σ fun fl ρ' σ' => fl = .next ∧ WR G K ss ρ' σ' C) : WR G K (as ++ ss) ρ σ C := fun A env F s k Γ p hΓ => by
  refine execs_app as p s (Sem.wp_mono G.M Γ _ (fun f p' s' h' => ?_) (fun _ _ _ h' => h') _ _ (h A env F s _ k Γ p hΓ))
  exact h'.casesOn fun fl ρ' σ' F' hf k' L q => by
    cases q.1
    cases f <;> first | exact hf.elim | skip
    exact fun p' => wr_from L (q.2 A env F' s' k') Γ p' hΓ
end
def dictP (G : Gl) (ks : List (List Nat)) (a : Addr) (o : Obj) (_ : Addr) (_ : Obj) : Prop := (a == sysModules) = false ∧ ∃ f : Str → Option Value, (∀ h : Heap, h.get? a = some o → h.MapOf (strKind G.prog G.w) a f) ∧ ∀ k : List Nat, (f ⟨k.toArray⟩).isSome = decide (k ∈ ks)
section
variable {G : Gl} {K : Sx} {A : Around} {env : Env} {ρ : List V} {σ : Ow} {F : Fz} {s : Shared} {ss : List Stmt} {Q : KS} {ks : List (List Nat)} {a : List Nat}
theorem tr_in_dict {l r : PySem.Expr} {p : Pos} (h1 : Ev G K ρ σ l (.str a)) (h2 : Ev G K ρ σ r (.obj (dictP G ks))) (hm : behindInMarks .In r = false := by rfl) : Tr G K ρ σ (.Compare l [.In] [r] p) (decide (a ∈ ks)) := fun A env F s E k =>
  wpAny_isTrue_Compare1 (h1.bind k fun v F₁ s₁ S₁ r₁ k₁ => h2.bind k₁ fun w F₂ s₂ S₂ r₂ k₂ => by
    obtain ⟨t, rfl⟩ := r₁
    obtain ⟨d, o, _, _, rfl, hF, _, hs, f, hm, hf⟩ := r₂
    refine wpAny_in_of (knd := strKind G.prog G.w) (k := ⟨a.toArray⟩) (beq_self_eq_true _) hs (hm _ (k₂.rm.sub _ _ hF)) ?_
    rw [hf]
    exact wpAny_truthy_bool ⟨F₂, (S₁.trans S₂).trans (St.grow (t := s₂.toks + 1) k₂.rm.sub fun _ _ e => e), rfl⟩) hm
theorem stored_mem (kvs : List (Str × Value)) (k k' : Str) (v : Value) : (valueAt (stored kvs k v) k').isSome = (decide (k' = k) || (valueAt kvs k').isSome) := by
  have e : ∀ (l : List (Str × Value)), (valueAt l k').isSome = l.any fun x => decide (x.1 = k') := fun l => by
    unfold valueAt; rw [Option.isSome_map, Bool.eq_iff_iff, List.find?_isSome, List.any_eq_true]
  rw [e, e]
  unfold stored
  split
  · rename_i h
    rw [List.any_map, Bool.eq_iff_iff, Bool.or_eq_true, List.any_eq_true, List.any_eq_true, decide_eq_true_eq]
    constructor
    · rintro ⟨x, hx, q⟩
      refine .inr ⟨x, hx, ?_⟩
      simp only [Function.comp] at q
      split at q <;> exact q
    · rintro (rfl | ⟨x, hx, q⟩)
      · obtain ⟨x, hx, q⟩ := List.any_eq_true.mp h
        refine ⟨x, hx, ?_⟩
        simp only [Function.comp]; split <;> exact q
      · refine ⟨x, hx, ?_⟩
        simp only [Function.comp]; split <;> exact q
  · rw [List.any_append, Bool.or_comm]
    congr 1
    rw [List.any_cons, List.any_nil, Bool.or_false]
    exact decide_eq_decide.mpr ⟨Eq.symm, Eq.symm⟩
theorem stored_len (kvs : List (Str × Value)) (k : Str) (v : Value) : (stored kvs k v).length ≤ kvs.length + 1 := by
  unfold stored; split
  · rw [List.length_map]; (exact a37 )
  · rw [List.length_append]; exact Nat.le_refl _
theorem FOk.freeze {a : Addr} {o : Obj} {P : Addr → Obj → Addr → Obj → Prop} {i : Nat} (k : FOk G K A env ρ σ F s) (hv : ρ[i]? = some (.ref a)) (ho : s.heap.get? a = some o) (hF : F a = none) (hP : P a o a o) (hl : ∀ c, σ a ≠ some c) (hc : ∀ v, o.data ≠ .cell v) (hL : a ≠ env.locals) (hf : NoFr A a) : FOk G K A env (ρ.set i (.obj P)) σ (F.add a o) s := by
  have up : ∀ b p, F b = some p → F.add a o b = some p := fun b p e => (if_neg (by rintro rfl; exact nomatch hF.symm.trans e)).trans e
  have ne : ∀ {b : Addr}, F b = none → b ≠ a → F.add a o b = none := fun h e => (if_neg e).trans h
  have cl : ∀ {c : Addr} {ov : Option Value}, s.heap.IsCell c ov → c ≠ a := fun h => by rintro rfl; obtain ⟨oc, hoc, hdc⟩ := h; cases ho.symm.trans hoc; exact hc _ hdc
  obtain ⟨m, hm, vars⟩ := k.e.loc.vars
  have rel : ∀ {j : Nat} {w : V} {ov : Option Value}, (ρ.set i (.obj P))[j]? = some w → (∀ w', ρ[j]? = some w' → RelO F w' ov) → RelO (F.add a o) w ov := fun hw h => by
    rcases set_get hw with ⟨rfl, rfl⟩ | ⟨_, hw⟩
    · intro _
      obtain ⟨v, e, r⟩ := h _ hv (by intro q; cases q)
      exact ⟨v, e, a, o, a, o, r, if_pos rfl, if_pos rfl, hP⟩
    · exact (h _ hw).mono up
  refine ⟨⟨⟨k.e.rm.go, fun b p e => up b p (k.e.rm.base b p e), fun b p e => ?_, k.e.rm.depth, k.e.rm.units, k.e.rm.handled, k.e.rm.frs fun L hn hL t => ⟨ne hL (by rintro rfl; exact hn hf), t⟩⟩, k.e.sc, k.e.kind, k.e.globals, k.e.builtins, fun b xs q => ?_, ⟨by rw [List.length_set]; exact k.e.loc.len, ne k.e.loc.out hL.symm, m, hm, fun j y w hy hw => ?_⟩⟩, k.top, k.apart, k.nodup, fun x c hx => ?_, k.sep⟩
  · by_cases h : b = a
    · subst h; cases (if_pos rfl).symm.trans e; exact ho
    · exact k.e.rm.sub b p ((if_neg h).symm.trans e)
  · obtain ⟨h1, oo, h2, r⟩ := k.e.own b xs q
    exact ⟨ne h1 (by rintro rfl; exact hl _ q), oo, h2, r.mono up⟩
  · have hj : j < ρ.length := by have := (List.getElem?_eq_some_iff.mp hw).1; rwa [List.length_set] at this
    refine ⟨fun hk => rel hw fun w' h => (vars j y w' hy h).1 hk, fun hk => ?_⟩
    obtain ⟨c, ov, u1, u2, u3, u4⟩ := (vars j y _ hy (List.getElem?_eq_getElem hj)).2 hk
    refine ⟨c, ov, u1, u2, rel hw fun w' h => ?_, ne u4 (cl u2)⟩
    cases (List.getElem?_eq_getElem hj).symm.trans h
    exact u3
  · obtain ⟨h1, h2⟩ := k.own x c hx
    exact ⟨h1, h1.elim fun _ h => ne h2 (cl h)⟩
theorem szl : 10000 ≤ sizeLine := by decide
theorem ws_fill {nk nn nb : Str} {rs : List Row} {y : V} {ne : Str} {kk : Nat} {q0 q1 q2 q3 q4 q5 q6 q7 q8 q9 q10 q11 q12 : Pos} (hsy : ∃ o, G.B.get? sysModules = some o) (hn : rs.length ≤ 10000) (h : ∀ u v, WS G K ss [y, .lst (rs.map RowV), .obj (dictP G (rs.map (·.1))), u, v] σ Q)
    (hk : nameOK K 2 nk = true := by decide +kernel) (hj' : nameOK K 3 nn = true := by decide +kernel) (hl' : nameOK K 4 nb = true := by decide +kernel) (he' : nameOK K 1 ne = true := by decide +kernel) :
    WS G K (.Assign [.Name nk q0] (.Dict [] [] q1) q2 :: .For (.Tuple [.Name nn q3, .Name nb q4] kk q5) (.Name ne q6) [.Assign [.Subscript (.Name nk q7) (.Name nn q8) q9] (.Name nb q10) q11] [] q12 :: ss) [y, .lst (rs.map RowV), .unb, .unb, .unb] σ Q := fun A env F s E k => by
  have up0 : ∀ b o, s.heap.get? b = some o → (s.heap.push { cls := .type "dict", data := .dict #[] }).get? b = some o := fun b o e => Heap.get?_push_of_some _ e
  have S0 : St N0 F s F { s with heap := s.heap.push { cls := .type "dict", data := .dict #[] } } := .grow (t := s.toks) k.e.rm.sub up0
  have D0 : (s.heap.push { cls := .type "dict", data := .dict #[] }).DictOf (strKind G.prog G.w) s.heap.objs.size [] := .new _
  have ha0 : s.heap.get? s.heap.objs.size = none := size_none _
  refine wpAny_execs_cons (wpAny_Assign_Name (wpAny_Dict_empty ?_) rfl)
  generalize s.heap.objs.size = a at *
  have hsys : (a == sysModules) = false := beq_false_of_ne (by rintro rfl; exact hsy.elim fun o e => nomatch ha0.symm.trans (k.e.rm.in _ _ e))
  have hF0 : F a = none := k.e.rm.out ha0
  have hfr : NoFr A a := k.e.rm.nofr fun o es n e => nomatch ha0.symm.trans e
  have hown : ¬ Own env a := by
    rintro (rfl | ⟨x, hx⟩)
    · obtain ⟨m, hm, _⟩ := k.e.loc.vars
      exact (Ns_obj hm).elim fun o e => nomatch ha0.symm.trans e
    · exact (k.own x a hx).1.elim fun _ h => h.elim fun _ h => nomatch ha0.symm.trans h.1
  have hσ : ∀ xs, σ a ≠ some xs := fun xs q => (k.e.own a xs q).2.elim fun _ q => nomatch ha0.symm.trans q.1
  refine store_ok (k.step S0) hk (show Rel F (.ref a) (.ref a) from rfl) fun h₁ t₁ k₁ L₁ hk₁ => ?_
  have keepD : ∀ {h h' : Heap} {kvs : List (Str × Value)}, h.DictOf (strKind G.prog G.w) a kvs → (∀ o, h.get? a = some o → (∀ vs, o.data ≠ .fields vs) → h'.get? a = some o) → h'.DictOf (strKind G.prog G.w) a kvs := fun hD hk => hD.imp fun o r => r.imp fun es r => r.imp fun ep r => ⟨hk o r.1 fun vs q => (nomatch r.2.2.1.symm.trans q), r.2⟩
  have D1 := keepD (h' := h₁) D0 fun o e _ => hk₁ a o hown e
  have LL := S0.lk.trans L₁
  refine wpAny_execs_cons (for_core (x := .lst (rs.map RowV)) (R := fun f s' => match f with | .next => wpAny G.M A (execs ss env) (PS G K A env σ F s Q) E s' | f => PS G K A env σ F s Q f s') (Ex := notedBy G.M A env (cameBackBy G.M A env E))
    (fun n ρ' σ' F' h' => σ' = σ ∧ (∃ u v, ρ' = [y, .lst (rs.map RowV), .ref a, u, v]) ∧ F' a = none ∧ ∃ kvs : List (Str × Value), h'.DictOf (strKind G.prog G.w) a kvs ∧ kvs.length ≤ n ∧ ∀ x : List Nat, (valueAt kvs ⟨x.toArray⟩).isSome = decide (x ∈ (rs.take n).map (·.1))) k₁ LL ?_ rfl (fun _ _ h => h) ?_ ?_ ?_ fun v => rfl)
  · exact name_var k₁.e (i := 1) (x := .lst (rs.map RowV)) rfl rfl he' fun v r => ⟨F, .refl k₁.e.rm.sub, r, rfl, ⟨_, _, rfl⟩, hF0, [], D1, Nat.le_refl _, fun x => by simp [valueAt]⟩
  · rintro n ρ' σ' F' h h' ⟨h1, h2, h3, kvs, h4, h5⟩ hk
    exact ⟨h1, h2, h3, kvs, keepD h4 fun o e q => hk a o e q, h5⟩
  · rintro n ρ' σ' F' s' x v hx k' L' ⟨rfl, ⟨u, w, rfl⟩, hF', kvs, hD, hlen, hmem⟩ hr
    rw [List.getElem?_map] at hx
    obtain ⟨r, hr', rfl⟩ := Option.map_eq_some_iff.mp hx
    have hnl : n < rs.length := (List.getElem?_eq_some_iff.mp hr').1
    refine asg_tup2 (y := .str r.1) (z := .int r.2) 3 4 hj' hl' A env σ' F' s' _ v _ k' hr fun h₂ t₂ k₂ L₂ hk₂ => wpAny_execs_cons (wpAny_Assign_Subscript ?_ rfl)
    have D2 := keepD (h' := h₂) hD fun o e _ => hk₂ a o hown e
    refine name_var k₂.e (i := 4) (x := .int r.2) rfl rfl hl' fun v4 r4 => name_var k₂.e (i := 2) (x := .ref a) rfl rfl hk fun v2 r2 => name_var k₂.e (i := 3) (x := .str r.1) rfl rfl hj' fun v3 r3 => ?_
    cases show v2 = .ref a from r2
    obtain ⟨t3, rfl⟩ := r3
    refine wpAny_setItem_pairs (knd := strKind G.prog G.w) (k := ⟨r.1.toArray⟩) (beq_self_eq_true _) D2 (fun h₃ D3 hs₃ => ?_) (by have := szl; (exact a38 this hlen hn hnl))
    have own₃ : ∀ b xs, σ' b = some xs → F' b = none ∧ ∃ o, h₃.get? b = some o ∧ OcR F' o xs := fun b xs q => (k₂.e.own b xs q).imp id fun q' => q'.imp fun _ q' => ⟨hs₃.extBut _ _ (by rintro rfl; exact hσ xs q) q'.1, q'.2⟩
    have k₃ := k₂.other (t := t₂ + 1) hF' hs₃.extBut hown hfr own₃ k₂.sep
    obtain ⟨o₂, es₂, ep₂, ho₂, _, hd₂, _⟩ := D2
    obtain ⟨o₃, es₃, ep₃, ho₃, _, hd₃, _⟩ := id D3
    -- the dict is new since s: no old object has changed
    have L₃ : Lk env σ' F s σ' F' { s' with heap := h₃, toks := t₂ + 1 } := (L'.trans L₂).priv hF' ha0 hs₃.extBut
    have rc := L₂.recs k'
    refine wpAny_execs_nil ⟨.next, _, σ', F', trivial, k₃, L₃, ⟨fun _ _ e => e, fun b o vs ho hd hFb hσb => ?_⟩, fun _ => ⟨rfl, ⟨_, _, rfl⟩, hF', _, D3, Nat.le_trans (stored_len ..) (Nat.succ_le_succ hlen), fun x => ?_⟩, nofun⟩
    · obtain ⟨g1, g2, g3⟩ := rc.2 b o vs ho hd hFb hσb
      exact ⟨hs₃.extBut b o (by rintro rfl; cases g1.symm.trans ho₂; exact nomatch hd.symm.trans hd₂) g1, g2, g3⟩
    · rw [stored_mem, hmem, List.take_succ_eq_append_getElem hnl, List.map_append, Bool.eq_iff_iff, Bool.or_eq_true, decide_eq_true_eq, decide_eq_true_eq, decide_eq_true_eq, List.mem_append, or_comm]
      refine or_congr Iff.rfl ?_
      rw [List.map_cons, List.map_nil, List.mem_singleton, (List.getElem?_eq_some_iff.mp hr').2]
      exact ⟨fun e => by have := congrArg (fun z : Str => z.cps.toList) e; simpa using this, fun e => by rw [e]⟩
  · rintro ρ' σ' F' s' k' L' ⟨rfl, ⟨u, w, rfl⟩, hF', kvs, hD, hlen, hmem⟩
    obtain ⟨o, es, ep, ho, hc, hd, hr⟩ := hD
    have k₂ := k'.freeze (i := 2) (P := dictP G (rs.map (·.1))) rfl ho hF' ⟨hsys, valueAt kvs, fun h' e => Heap.DictOf.mapOf ⟨o, es, ep, e, hc, hd, hr⟩, fun x => by rw [hmem, List.length_map, List.take_length]⟩ hσ (fun v q => nomatch hd.symm.trans q) (fun e => hown (.inl e)) hfr
    have LF : Lk env σ' F s σ' (F'.add a o) s' := ⟨L'.S.freeze ha0 ho hF', fun _ xs q => .inl ⟨xs, q, id⟩⟩
    exact wpAny_mono (h u w A env _ s' E k₂) (fun _ _ q => q.from LF) fun _ _ e => e
end
end Mine

set_option autoImplicit false
set_option linter.all false
set_option genSizeOf false
set_option genInjectivity false
set_option maxRecDepth 100000
namespace Mine
open PySem PyProof.Rows PySem.W
section
variable {M : Model} {A : Around} {E : Value → Shared → Prop} {h : Heap} {g : Array GenState} {d : Drawn} {t : Nat} {os : OsState}
variable {nm q nm' q' : Str} {C N C' N' : Addr} {bs bm bs' bm' : List Value} {hdct hdct' : Bool} {sn sn' : List Str} {sub sub' : List Value} {ab ab' : Bool} {col col' : Option Bool} {dd dd' : Option Addr} {k0 k1 k2 k3 k5 l0 l1 l2 l3 l5 : Option Value} {newId newId' : String}
end
section
variable {G : Gl} {K : Sx} {A : Around} {env : Env} {ρ : List V} {σ : Ow} {F : Fz} {s : Shared} {E : Value → Shared → Prop} {Q : KS} {ss body : List Stmt} {C C' : Addr} {p np np' pos pos' : Pos} {x x' n n' : Str} {z : V} {hs : List ExceptHandler} {e : PySem.Expr} {es : List PySem.Expr} {xs : List V} {f : Str}
end
end Mine

set_option autoImplicit false
set_option linter.all false
set_option genSizeOf false
set_option genInjectivity false
set_option maxRecDepth 100000
namespace Mine
open PySem PyProof.Rows PySem.W
section
variable {G : Gl} {K : Sx} {ρ : List V} {σ : Ow} {e l m r : PySem.Expr} {x y z : V} {p q : Pos} {b c : Bool} {i j k' : Int} {a : List Nat}
theorem ev_gint {n : Str} (h : ∃ t, G.mg n = some (.int i t)) (hg : globOK K n = true := by decide +kernel) : Ev G K ρ σ (.Name n p) (.int i) := fun A env F s E k => h.elim fun t h => name_global k (.inl h) hg (pv_same k ⟨t, rfl⟩)
theorem ev_chain {o₁ o₂ : CmpOp} (h1 : Ev G K ρ σ l x) (h2 : Ev G K ρ σ m y) (h3 : Ev G K ρ σ r z) (c1 : Cm G o₁ x y b) (c2 : Cm G o₂ y z c) (hm : lastMarks [o₁, o₂] [m, r] = false := by with_unfolding_all rfl) : Ev G K ρ σ (.Compare l [o₁, o₂] [m, r] p) (.bool (b && c)) := fun A env F s E k =>
  Compare_chain (h1.bind k fun v F₁ s₁ S₁ r₁ k₁ => chain_link (h2.bind k₁ fun w F₂ s₂ S₂ r₂ k₂ => c1 A F₂ s₂ E v w _ k₂.rm (r₁.mono S₂.up) r₂ (wpAny_truthy_bool (by
    cases b
    · rw [if_neg Bool.false_ne_true]; exact ⟨F₂, S₁.trans S₂, rfl⟩
    · rw [if_pos rfl]
      refine chain_last (h3.bind k₂ fun u F₃ s₃ S₃ r₃ k₃ => ?_)
      exact c2 A F₃ s₃ E w u _ k₃.rm (r₂.mono S₃.up) r₃ ⟨F₃, (S₁.trans S₂).trans S₃, rfl⟩)))) hm
theorem ev_ord {c : Nat} (h1 : Ev G K ρ σ e (.str [c])) (hs : notStar e = true := by rfl) (hg : globOK K "ord" = true := by decide +kernel) : Ev G K ρ σ (.Call (.Name "ord" q) [e] [] p) (.int c) :=
  ev_cb 8 rfl hg (by rw [List.all_cons, hs]; rfl) (evl_cons h1 evl_nil) fun A env F s E vs k r => by
    obtain ⟨v, rfl, t, rfl⟩ := rel1 r
    exact P.ord_of_char (pv_tok k.rm _ ⟨_, rfl⟩)
theorem bools_get {F : Fz} : ∀ {bs : List Bool} {vs : List Value}, RelL F (bs.map .bool) vs → vs = bs.map .bool
  | [], _, rfl => rfl
  | _ :: _, _, ⟨_, _, rfl, rfl, r⟩ => congrArg _ (bools_get r)
theorem ev_all {bs : List Bool} (h1 : Ev G K ρ σ e (.lst (bs.map .bool))) (hs : notStar e = true := by rfl) (hg : globOK K "all" = true := by decide +kernel) : Ev G K ρ σ (.Call (.Name "all" q) [e] [] p) (.bool (bs.all id)) :=
  ev_cb 9 rfl hg (by rw [List.all_cons, hs]; rfl) (evl_cons h1 evl_nil) fun A env F s E vs k r => by
    obtain ⟨v, rfl, r'⟩ := rel1 r
    obtain ⟨a, us, rfl, ⟨n, ha⟩, rl⟩ := r'
    cases bools_get rl
    have hl : s.heap.IsList a (bs.map Value.bool).toArray := ⟨_, k.rm.sub _ _ ha, rfl, n, rfl⟩
    have hne : a ≠ s.heap.objs.size := by rintro rfl; exact nomatch (size_none s.heap).symm.trans (k.rm.sub _ _ ha)
    refine call_all_walk (wpAny_pyIter_list hl ⟨_, _, _, _, _, _, fun i => bs.getD i true, rfl, Walks.list (by simp [k.rm.handled]) _ a hne _, ⟨⟨_, Heap.get?_push_size _ rfl, rfl, rfl⟩, hl.push _⟩, fun i v s' Q E' hv hQ => ?_, fun h' tk hk => ?_⟩)
    · have hv : bs[i]?.map Value.bool = some v := by simpa using hv
      obtain ⟨b, hb, rfl⟩ := Option.map_eq_some_iff.mp hv
      have hQ : Q (bs.getD i true) s' := hQ
      rw [List.getD_eq_getElem?_getD, hb] at hQ
      exact wpAny_truthy_bool hQ
    · have e : ((List.range (bs.map Value.bool).toArray.size).all fun i => bs.getD i true) = bs.all id := by
        rw [List.size_toArray, List.length_map, Bool.eq_iff_iff, List.all_eq_true, List.all_eq_true]
        constructor
        · intro h b hb
          obtain ⟨i, hi, rfl⟩ := List.getElem_of_mem hb
          have := h i (List.mem_range.mpr hi)
          rwa [List.getD_eq_getElem?_getD, List.getElem?_eq_getElem hi] at this
        · intro h i hi
          have hi := List.mem_range.mp hi
          rw [List.getD_eq_getElem?_getD, List.getElem?_eq_getElem hi]
          exact h _ (List.getElem_mem hi)
      rw [e]
      refine ⟨F, .grow (t := tk) k.rm.sub fun b o eb => hk b o ?_ (Heap.get?_push_of_some _ eb), rfl⟩
      rw [List.mem_singleton]; rintro rfl; exact nomatch (size_none s.heap).symm.trans eb
end
end Mine

set_option autoImplicit false
set_option linter.all false
set_option genSizeOf false
set_option genInjectivity false
set_option maxRecDepth 100000
namespace Mine
open PySem PyProof.Rows PySem.W
section
variable {G : Gl} {K : Sx} {A : Around} {env : Env} {ρ : List V} {σ : Ow} {F : Fz} {s : Shared} {E : Value → Shared → Prop} {e l r c : PySem.Expr} {x y z : V} {p q ap : Pos} {b : Bool} {i : Int} {a a' : List Nat} {ts : List (List Nat)} {sep : List Nat}
theorem cm_ins {c : Nat} : Cm G .In (.str [c]) (.str a) (decide (c ∈ a)) := by
  rintro A F s E _ _ R _ ⟨_, rfl⟩ ⟨_, rfl⟩ h
  exact P.in_str (by rw [StrLaws.found_one]; exact h)
end
end Mine

set_option autoImplicit false
set_option linter.all false
set_option genSizeOf false
set_option genInjectivity false
set_option maxRecDepth 100000
namespace Mine
open PySem PyProof.Rows PySem.W
section
variable {G : Gl} {K : Sx} {A : Around} {env : Env} {ρ : List V} {σ : Ow} {F : Fz} {s : Shared} {E : Value → Shared → Prop} {Q : KS} {e l r c : PySem.Expr} {x y z : V} {p q q' ap : Pos} {ss : List Stmt} {xs ys : List V}
theorem pick_slice (vs : List Value) (lo hi : Option Int) : slicePick vs.toArray lo hi none = (slice vs lo hi).toArray := by
  have e : (sliceRange (sliceBounds lo hi none vs.length).1 (sliceBounds lo hi none vs.length).2.1 (sliceBounds lo hi none vs.length).2.2) = (List.range (clampI hi vs.length vs.length - clampI lo 0 vs.length)).map (clampI lo 0 vs.length + ·) := by
    rw [← sliceRange_one]
    unfold sliceBounds
    simp only [Option.getD_none, show (1 : Int) > 0 by decide, if_true]
    congr 1
    · cases lo with
      | none => rfl
      | some i => simp only [clampI]; split <;> (first | exact a21 ‹_› | exact a24 ‹_›)
    · cases hi with
      | none => rfl
      | some i => simp only [clampI]; split <;> (first | exact a21 ‹_› | exact a24 ‹_›)
  unfold slicePick
  rw [List.size_toArray, e, pick_run]
  unfold slice
  rw [List.drop_take]
theorem RelL.slice {lo hi : Option Int} {vs : List Value} (rl : RelL F xs vs) : RelL F (Mine.slice xs lo hi) (Mine.slice vs lo hi) := by
  unfold Mine.slice
  rw [rl.length]
  exact (rl.take _).drop _
theorem ev_slc_gen {lo hi : Option PySem.Expr} {m n : Option Int} (h1 : Ev G K ρ σ l x) (h2 : EvO G K ρ σ lo m) (h3 : EvO G K ρ σ hi n) (hl : xs.length ≤ sizeLine) (hx : ∀ A env F s v, EOk G K A env ρ σ F s → Rel F x v → ∃ b vs, v = .ref b ∧ s.heap.IsList b (List.toArray vs) ∧ RelL F xs vs) : Ev G K ρ σ (.Subscript l (.Slice lo hi none q) p) (.lst (slice xs m n)) :=
  fun A env F₀ s E k => Subscript_ (h1.bind k fun v F₁ s₁ S₁ r₁ k₁ => wpAny_Slice (h2 A env F₁ s₁ E _ k₁ fun vl F₂ s₂ S₂ pl k₂ => h3 A env F₂ s₂ E _ k₂ fun vu F₃ s₃ S₃ pu k₃ => wpAny_evalPart_none (by
    have S₄ : St N0 F₃ s₃ F₃ { s₃ with heap := s₃.heap.push { cls := .type "slice", data := .fields #[vl, vu, .none] } } := St.grow k₃.rm.sub fun _ _ e => Heap.get?_push_of_some _ e
    have k₄ := k₃.step S₄
    obtain ⟨b, vs, rfl, hb, rl⟩ := hx A env F₃ _ v k₄ ((r₁.mono S₂.up).mono S₃.up)
    refine tail_any (ops := [.ref s₃.heap.objs.size, .ref b]) hb.typeIs slot_list_getitem.lookup ?_ rfl
    refine wp_from (((S₁.trans S₂).trans S₃).trans S₄) (wpAny_getItem_list_slice hb ⟨_, Heap.get?_push_size _ rfl, rfl, rfl⟩ pl pu .none (by simp) ?_ (by rw [List.size_toArray, rl.length]; exact hl))
    rw [pick_slice]
    exact pv_push k₄.rm (lobj (slice vs m n) 0) s₃.toks ⟨_, _, rfl, ⟨0, Fz.add_self⟩, rl.slice.mono (add_up k₄.rm)⟩ rfl)))
end
end Mine

set_option autoImplicit false
set_option linter.all false
set_option genSizeOf false
set_option genInjectivity false
set_option maxRecDepth 100000
namespace Mine
open PySem PySem.W PyProof.Rows
def trP (C dx : Addr) : Addr → Obj → Addr → Obj → Prop := fun a o _ _ => o.cls = .ref C ∧ o.dict = some dx ∧ dx ≠ a ∧ ∀ c, o.data ≠ .cls c
abbrev trl (C dx : Addr) : V := .obj (trP C dx)
structure TrC (G : Gl) (C N : Addr) (mN : Str → Option Value) : Prop where
  bound : G.mg "Trail" = some (.ref C)
  cls : ClsAt G.B C N mN
  q1 : mN "__setattr__" = none
  q2 : mN "__getattribute__" = none
  q3 : mN "__getattr__" = none
  q4 : mN "kept" = none
  q5 : mN "past" = none
theorem no_kept : typeLookup (.type "object") "kept" = pure none := by rw [typeLookup_type, builtinLookup_eq_fast]; kernel_rfl
theorem no_past : typeLookup (.type "object") "past" = pure none := by rw [typeLookup_type, builtinLookup_eq_fast]; kernel_rfl
theorem hand_ok {v : Value} (h : ∀ i, v ≠ .builtin i) : handedOut v = pure v := by
  cases v <;> first | rfl | exact absurd rfl (h _)
section
variable {G : Gl} {K : Sx} {A : Around} {env : Env} {ρ : List V} {σ σ' : Ow} {F F₁ F' : Fz} {s s₁ s' : Shared} {E : Value → Shared → Prop} {Q : KS} {e : PySem.Expr} {es : List PySem.Expr} {ss : List Stmt} {x y z kk : V} {xs ys : List V} {p q q' ap : Pos} {w : Bool} {C N dx b : Addr} {mN : Str → Option Value}
theorem EOk.inst (k₀ : EOk G K A env ρ σ F s) (hσ : σ dx = some (.tr w kk b)) {v : Value} (r : Rel F (trl C dx) v) : ∃ x mA vk, v = .ref x ∧ s.heap.Inst x C mA ∧ mA "kept" = some vk ∧ (∀ i, vk ≠ .builtin i) ∧ Rel F kk vk ∧ mA "past" = some (.ref b) ∧ ∀ n : Str, n ≠ "kept" → n ≠ "past" → mA n = none := by
  obtain ⟨x, o, d, od, rfl, hx, hd, hc, hdict, hne, hnc⟩ := r
  obtain ⟨hF, oo, ho, es, ep, vk, e1, e2, e3, e4, e5, e6, e7, rk⟩ := k₀.own dx _ hσ
  exact ⟨x, nsFind es, vk, rfl, ⟨o, k₀.rm.sub _ _ hx, hc, hnc, .inr ⟨dx, hdict, hne, oo, es, ep, ho, e1, e2, e3, fun _ => rfl⟩⟩, e4, e7, rk, e5, e6⟩
theorem ev_keptT {n : Str} (T : TrC G C N mN) (hσ : σ dx = some (.tr w kk b)) (h1 : Ev G K ρ σ (.Name n q) (trl C dx)) : Ev G K ρ σ (.Attribute (.Name n q) "kept" p) kk := fun A env F s E k =>
  Attribute_any_ (h1.bind k fun v F₁ s₁ S₁ r₁ k₁ => by
    obtain ⟨x, mA, vk, rfl, I, h1, h2, rk, _, _⟩ := k₁.inst hσ r₁
    have X := T.cls.keeps k₁.rm.in
    obtain ⟨nm, q, bs, sn, sub, col, dd, k0, k1, k2, k3, k5, hC⟩ := X.obj
    have fin : PV F s kk vk { s₁ with toks := s₁.toks + 1 } := PV.from S₁ (pv_tok k₁.rm _ rk)
    obtain ⟨hh, g, d, t, os⟩ := s₁
    exact load_attr hC X.ns T.q2 T.q4 no_kept I h1 (hand_ok h2) fin)
theorem ev_pastT {n : Str} (T : TrC G C N mN) (hσ : σ dx = some (.tr w kk b)) (h1 : Ev G K ρ σ (.Name n q) (trl C dx)) : Ev G K ρ σ (.Attribute (.Name n q) "past" p) (.ref b) := fun A env F s E k =>
  Attribute_any_ (h1.bind k fun v F₁ s₁ S₁ r₁ k₁ => by
    obtain ⟨x, mA, vk, rfl, I, _, _, _, h1, _⟩ := k₁.inst hσ r₁
    have X := T.cls.keeps k₁.rm.in
    obtain ⟨nm, q, bs, sn, sub, col, dd, k0, k1, k2, k3, k5, hC⟩ := X.obj
    have fin : PV F s (.ref b) (.ref b) { s₁ with toks := s₁.toks + 1 } := PV.from S₁ (pv_tok k₁.rm _ rfl)
    obtain ⟨hh, g, d, t, os⟩ := s₁
    exact load_attr hC X.ns T.q2 T.q5 no_past I h1 rfl fin)
theorem FOk.putT {h' : Heap} {t : Nat} {o' : Obj} {k' : V} {b' : Addr} (k : FOk G K A env ρ σ F s) (hd : σ dx = some (.tr true kk b)) (hs : Heap.ExtBut dx s.heap h') (ho : h'.get? dx = some o') (r : OcR F o' (.tr true k' b')) :
    FOk G K A env ρ (σ.put dx (.tr true k' b')) F { s with heap := h', toks := t } ∧ Lk env σ F s (σ.put dx (.tr true k' b')) F { s with heap := h', toks := t } := by
  obtain ⟨hF, oo, hoo, _⟩ := k.e.own dx _ hd
  have hsep := k.sep dx _ hd
  refine ⟨k.other hF hs hsep.1 (hsep.2 rfl) (fun a c q => ?_) (k.setSep (hsep.imp id fun h _ => h rfl)), St.change k.e.rm.sub hF (.inl (.inr ⟨_, hd, rfl⟩)) hs ⟨o', ho, fun o _ _ _ _ => ?_⟩, fun a c q => ?_⟩
  · by_cases h : a = dx
    · subst h; cases (Ow.put_self ..).symm.trans q; exact ⟨hF, o', ho, r⟩
    · exact (k.e.own a c ((Ow.put_ne _ _ h).symm.trans q)).imp id fun t => t.imp fun o t => ⟨hs a o h t.1, t.2⟩
  · obtain ⟨es, ep, v, e1, _⟩ := r; exact ⟨es, ep, e1⟩
  · by_cases h : a = dx
    · exact .inl ⟨_, h ▸ hd, fun _ => rfl⟩
    · exact .inl ⟨c, (Ow.put_ne _ _ h).symm.trans q, id⟩
theorem objEq {o₀ o₁ : Obj} (h1 : o₁.cls = o₀.cls) (h2 : o₁.data = o₀.data) (h3 : o₁.slots = o₀.slots) (h4 : o₁.dict = o₀.dict) : o₁ = o₀ := by
  cases o₀; cases o₁; cases h1; cases h2; cases h3; cases h4; rfl
theorem store_kept {v : Value} {x : Addr} {o : Obj} {R : Unit → Shared → Prop} (T : TrC G C N mN) (k : FOk G K A env ρ σ F s) (hd : σ dx = some (.tr true kk b)) (hx : F x = some o) (hp : trP C dx x o x o) (r : Rel F y v) (hy : ∀ i, v ≠ .builtin i)
    (h : ∀ h' t, FOk G K A env ρ (σ.put dx (.tr true y b)) F { s with heap := h', toks := t } → Lk env σ F s (σ.put dx (.tr true y b)) F { s with heap := h', toks := t } → R () { s with heap := h', toks := t }) : wpAny G.M A (setAttr (.ref x) "kept" v) R E s := by
  obtain ⟨x', mA, vk, e, I, m1, _, _, m2, m3⟩ := k.e.inst hd (v := .ref x) ⟨x, o, x, o, rfl, hx, hx, hp⟩
  cases e
  have hxs := k.e.rm.sub _ _ hx
  have X := T.cls.keeps k.e.rm.in
  obtain ⟨nm, q, bs, sn, sub, col, dd, k0, k1, k2, k3, k5, hC⟩ := X.obj
  have hxC : x ≠ C := by
    rintro rfl
    cases hxs.symm.trans hC
    exact hp.2.2.2 _ rfl
  obtain ⟨hh, g, d, t, os⟩ := s
  refine store_attr (ns := ["kept", "past"]) PySem.F.store_object hC X.ns T.q1 T.q4 no_kept hxC I (fun h' tk I' hk hsame => ?_) (fun n hn => ?_) (by decide)
  · have hs : Heap.ExtBut dx hh h' := fun a oa ha e => by
      by_cases hax : a = x
      · subst hax
        cases hxs.symm.trans e
        obtain ⟨o₁, e₁, g1, g2, g3, g4⟩ := hsame _ e
        rw [e₁, objEq g1 g2 g3 ((g4 dx hp.2.1).trans hp.2.1.symm)]
      · exact hk a oa hax (fun o₀ d' h1 h2 => by cases hxs.symm.trans h1; cases hp.2.1.symm.trans h2; exact ha) e
    obtain ⟨o₁, e₁, _, _, I₁⟩ := I'
    have hxs' := hs x o hp.2.2.1.symm hxs
    cases hxs'.symm.trans e₁
    rcases I₁ with ⟨hn, _⟩ | ⟨d', hd', _, od, es, ep, ho, f1, f2, f3, f4⟩
    · exact nomatch hp.2.1.symm.trans hn
    · cases hp.2.1.symm.trans hd'
      have := k.putT (t := tk) hd hs ho (k' := y) (b' := b) ⟨es, ep, v, f1, f2, f3, (f4 _).trans (if_pos rfl), (f4 _).trans ((if_neg (by decide)).trans m2), fun n n1 n2 => (f4 n).trans ((if_neg n1).trans (m3 n n1 n2)), hy, r⟩
      exact h h' tk this.1 this.2
  · by_cases h1 : n = "kept"
    · exact h1 ▸ List.mem_cons_self ..
    · by_cases h2 : n = "past"
      · exact h2 ▸ List.mem_cons_of_mem _ (List.mem_cons_self ..)
      · exact absurd (m3 n h1 h2) hn
theorem ws_keptT {n : Str} (T : TrC G C N mN) (hd : σ dx = some (.tr true kk b)) (h1 : Ev G K ρ σ e y) (hy : ∀ F v, Rel F y v → ∀ i, v ≠ .builtin i) (h2 : Ev G K ρ σ (.Name n q) (trl C dx)) (h : WS G K ss ρ (σ.put dx (.tr true y b)) Q)
    (hsw : ∀ env, env.scope = K.sc → swapsWith e (some (.Attribute (.Name n q) "kept" q')) p.line env = pure false := by intros; rfl) : WS G K (.Assign [.Attribute (.Name n q) "kept" q'] e p :: ss) ρ σ Q :=
  ws_cons fun A env F s E k => plainObj_wpAny_Assign_Attribute (h1.bind k.e fun v F₁ s₁ S₁ r₁ k₁ => h2.bind k₁ fun u F₂ s₂ S₂ r₂ k₂ => by
    obtain ⟨x, o, _, _, rfl, hx, _, hp⟩ := r₂
    have S := S₁.trans S₂
    exact store_kept T (k.step S) hd hx hp (r₁.mono S₂.up) (hy _ _ r₁) fun h' t k₃ L => ⟨.next, ρ, _, F₂, trivial, k₃, S.lk.trans L, h⟩) (hsw env k.e.sc)
end
end Mine

set_option autoImplicit false
set_option linter.all false
set_option genSizeOf false
set_option genInjectivity false
set_option maxRecDepth 100000
namespace Mine
open PySem PySem.W PyProof.Rows
structure Mth (G : Gl) (mN : Str → Option Value) (m : Str) (f : Addr) (K : Sx) (np : Nat) (B : List Stmt) : Prop where
  bound : mN m = some (.ref f)
  isf : ∃ o, G.B.get? f = some o ∧ o.cls = .type "function"
  fn : FnO G.B f K np B
  no : typeLookup (.type "object") m = pure none
  nk : m ≠ "kept"
  np : m ≠ "past"
section
variable {G : Gl} {K K' : Sx} {A : Around} {env : Env} {ρ : List V} {σ σ' : Ow} {F F₁ F' : Fz} {s s₁ s' : Shared} {E : Value → Shared → Prop} {Q : KS} {e : PySem.Expr} {es : List PySem.Expr} {ss B : List Stmt} {x y z kk : V} {xs ys : List V} {p q q' ap pe : Pos} {w : Bool} {C N dx b f X : Addr} {mN : Str → Option Value} {m : Str} {np : Nat}
theorem meth_fn {R : Value → Shared → Prop} (T : TrC G C N mN) (M : Mth G mN m f K' np B) (hσ : σ dx = some (.tr w kk b)) (h1 : Ev G K ρ σ e (trl C dx)) (ha : EvL G K ρ σ es ys) (hn : ∀ n env t, attributeBase e n env t = t) (hl : (ap.endLine == p.line) = true) (hs : es.all notStar = true) (h8 : es.length < 8) (k : EOk G K A env ρ σ F s)
    (fin : ∀ F₂ s₂ vs, St N0 F s F₂ s₂ → EOk G K A env ρ σ F₂ s₂ → RelL F₂ (trl C dx :: ys) vs → wpAny G.M A (call (.ref f) vs) R E s₂) : wpAny G.M A (eval (.Call (.Attribute e m ap) es [] p) env) R E s := by
  rw [arm_eval_Call]
  rw [hn]
  refine wpAny_bind (h1.bind k fun v F₁ s₁ S₁ r₁ k₁ => wpAny_bind (wpAny_standAt ?_))
  rw [back_star p env hs]
  have hform : methodCallForm (es.length + ([] : List Keyword).length) (es.map fun e => (false, eval e env)) (backToKw p (keywordEach [] env)) = true := by
    show ((es.map fun e => (false, eval e env)).all (fun x => !x.1) && true && decide (es.length + 0 + 0 < 30)) = true
    rw [all_false, decide_eq_true (by (exact a8 h8))]; rfl
  have hpos : methodCallPos true e env ap p = pure p := by unfold methodCallPos; simp [hl]
  unfold methodCall
  rw [hform]
  obtain ⟨x, mA, vk, rfl, I, _, _, _, _, h7⟩ := k₁.inst hσ r₁
  have X := T.cls.keeps k₁.rm.in
  obtain ⟨nm, q, bs, sn, sub, col, dd, k0, k1, k2, k3, k5, hC⟩ := X.obj
  obtain ⟨of, hof, hfc⟩ := M.isf
  obtain ⟨⟨of', fd, hof', hfd, _⟩, _⟩ := id M.fn
  have hin := k₁.rm.in
  have next : wpAny G.M A (callWith p (.ref f) [.ref x] (es.map fun e => (false, eval e env)) []) R E s₁ := Calls.callWith_function (evalArgs_list (all_false es env) (ha.bind k₁ fun vs F₂ s₂ S₂ r₂ k₂ => ⟨⟨k₂.rm.in _ _ hof', hfd⟩, fin F₂ s₂ (.ref x :: vs) (S₁.trans S₂) k₂ ⟨_, _, rfl, r₁.mono S₂.up, r₂⟩⟩))
  obtain ⟨hh, g, d, t, os⟩ := s₁
  exact wpAny_bind (wpAny_holding (method_of hC X.ns T.q2 T.q3 M.bound (hin _ _ hof) hfc M.no I (h7 m M.nk M.np) (wpAny_bind (wpAny_of_eq hpos next))))
theorem ro_one : ∀ a c, σ0.put dx (.tr false kk b) a = some c → c.rw = false := fun a c q => by
  by_cases h : a = dx
  · subst h; cases (Ow.put_self ..).symm.trans q; rfl
  · exact nomatch (Ow.put_ne _ _ h).symm.trans q
theorem own_one (k : EOk G K A env ρ σ F s) (hσ : σ dx = some (.tr w kk b)) : ∀ a c, σ0.put dx (.tr false kk b) a = some c → F a = none ∧ ∃ o, s.heap.get? a = some o ∧ OcR F o c := fun a c q => by
  by_cases h : a = dx
  · subst h; cases (Ow.put_self ..).symm.trans q; have t := k.own a _ hσ; exact t
  · exact nomatch (Ow.put_ne _ _ h).symm.trans q
theorem ev_meth (T : TrC G C N mN) (M : Mth G mN m f K' np B) (hσ : σ dx = some (.tr w kk b)) (h1 : Ev G K ρ σ e (trl C dx)) (ha : EvL G K ρ σ es ys) (hlen : ys.length + 1 = np) (hd : 0 < G.d) (body : WS G.dn K' B (trl C dx :: ys ++ List.replicate (K'.ns.length - np) .unb) (σ0.put dx (.tr false kk b)) (retQ z))
    (hn : ∀ n env t, attributeBase e n env t = t := by intros; rfl) (hl : (ap.endLine == p.line) = true := by rfl) (hs : es.all notStar = true := by rfl) (h8 : es.length < 8 := by exact Nat.lt_of_sub_eq_succ rfl) : Ev G K ρ σ (.Call (.Attribute e m ap) es [] p) z := fun A env F s E k =>
  meth_fn T M hσ h1 ha hn hl hs h8 k fun F₂ s₂ vs S k₂ r => wpAny_mono (pureO_ro (P := (· = z)) (xs := trl C dx :: ys) M.fn hlen hd ro_one (ws_mono body fun fl ρ σ q => by cases fl; exact q.symm; exact ⟨z, q, rfl⟩) k₂.rm r (own_one k₂ hσ)) (fun _ _ q => q.elim fun _ q => q.1 ▸ q.2.from S) fun _ _ e => e
theorem rzO_ro {sts : List Stmt} {fa : Addr} (FA : FnO G.B fa K np sts) (hlen : xs.length = np) (hd : 0 < G.d) (hro : ∀ a c, σ a = some c → c.rw = false) (h : WR G.dn K sts (xs ++ List.replicate (K.ns.length - np) .unb) σ X) {A : Around} {F : Fz} {s : Shared} {vs : List Value} (k : Rm G A F s) (r : RelL F xs vs) (hσ : ∀ a c, σ a = some c → F a = none ∧ ∃ o, s.heap.get? a = some o ∧ OcR F o c) : wpAny G.M A (call (.ref fa) vs) (fun _ _ => False) (PE A F s X) s :=
  wpAny_call (enter_core FA hlen hd k r (fun a c q => ⟨hσ a c q, fun hr => by rw [hro a c q] at hr; cases hr⟩) fun env s₁ k₁ S₁ hown _ => by
    obtain ⟨l, hl, _⟩ := k.frames
    refine wpAny_mono (h _ _ _ _ k₁) (fun _ _ q => q.elim) fun v s' q => px_leave q fun e ρ₂ σ₂ F₂ s₂ F' B outer a0 h' hv H x => ?_
    cases (Around.frames_deeper hl).symm.trans H.hfr
    exact ⟨e, F', B, a0, l, hv, hl, S₁.then (H.l.trans H.S.lk).S fun b o e q => q.elim (fun q => nomatch e.symm.trans (hown b q)) fun q => q.elim fun c q => (nomatch (hro b c q.1).symm.trans q.2), (H.c.from H.l.S).from S₁, x⟩)
theorem rz_meth {R : Value → Shared → Prop} (T : TrC G C N mN) (M : Mth G mN m f K' np B) (hσ : σ dx = some (.tr w kk b)) (h1 : Ev G K ρ σ e (trl C dx)) (ha : EvL G K ρ σ es ys) (hlen : ys.length + 1 = np) (hd : 0 < G.d) (body : WR G.dn K' B (trl C dx :: ys ++ List.replicate (K'.ns.length - np) .unb) (σ0.put dx (.tr false kk b)) X)
    (hn : ∀ n env t, attributeBase e n env t = t) (hl : (ap.endLine == p.line) = true) (hs : es.all notStar = true) (h8 : es.length < 8) (k : FOk G K A env ρ σ F s) : wpAny G.M A (eval (.Call (.Attribute e m ap) es [] p) env) R (PX G K A env σ F s X) s :=
  meth_fn T M hσ h1 ha hn hl hs h8 k.e fun F₂ s₂ vs S k₂ r => wpAny_mono (rzO_ro (xs := trl C dx :: ys) M.fn hlen hd ro_one body k₂.rm r (own_one k₂ hσ)) (fun _ _ q => q.elim) fun _ _ q => (px_of_pe (k.step S) q).from S.lk
theorem wr_meth (T : TrC G C N mN) (M : Mth G mN m f K' np B) (hσ : σ dx = some (.tr w kk b)) (h1 : Ev G K ρ σ e (trl C dx)) (ha : EvL G K ρ σ es ys) (hlen : ys.length + 1 = np) (hd : 0 < G.d) (body : WR G.dn K' B (trl C dx :: ys ++ List.replicate (K'.ns.length - np) .unb) (σ0.put dx (.tr false kk b)) X)
    (hn : ∀ n env t, attributeBase e n env t = t := by intros; rfl) (hl : (ap.endLine == p.line) = true := by rfl) (hs : es.all notStar = true := by rfl) (h8 : es.length < 8 := by exact Nat.lt_of_sub_eq_succ rfl) : WR G K (.Expr (.Call (.Attribute e m ap) es [] p) pe :: ss) ρ σ X :=
  wr_here fun A env F s k => wpAny_Expr_any (rz_meth T M hσ h1 ha hlen hd body hn hl hs h8 k) (by unfold interactive; rw [k.e.kind]; rfl) rfl
theorem wr_asg_meth {n : Str} (T : TrC G C N mN) (M : Mth G mN m f K' np B) (hσ : σ dx = some (.tr w kk b)) (h1 : Ev G K ρ σ e (trl C dx)) (ha : EvL G K ρ σ es ys) (hlen : ys.length + 1 = np) (hd : 0 < G.d) (body : WR G.dn K' B (trl C dx :: ys ++ List.replicate (K'.ns.length - np) .unb) (σ0.put dx (.tr false kk b)) X)
    (hn : ∀ n env t, attributeBase e n env t = t := by intros; rfl) (hl : (ap.endLine == p.line) = true := by rfl) (hs : es.all notStar = true := by rfl) (h8 : es.length < 8 := by exact Nat.lt_of_sub_eq_succ rfl) : WR G K (.Assign [.Name n q] (.Call (.Attribute e m ap) es [] p) pe :: ss) ρ σ X :=
  wr_here fun A env F s k => wpAny_Assign_Name (rz_meth T M hσ h1 ha hlen hd body hn hl hs h8 k) rfl
theorem FOk.after {D : Addr → Prop} (k : FOk G K A env ρ σ F s) (S : St D F s F' s') (hD : ∀ a, D a → ∃ c, σ a = some c ∧ c.rw = true) (hout : ∀ a, ¬ D a → σ' a = σ a) (hin : ∀ a c, D a → σ' a = some c → F' a = none ∧ ∃ o, s'.heap.get? a = some o ∧ OcR F' o c) : FOk G K A env ρ σ' F' s' ∧ Lk env σ F s σ' F' s' := by
  have own : ∀ a, D a → ¬ Own env a := fun a h => (hD a h).elim fun c t => (k.sep a c t.1).1
  have upO : ∀ b o, ¬ D b → s.heap.get? b = some o → ∃ o', s'.heap.get? b = some o' ∧ KeepO o o' := fun b o hb e => S.keepO b o e hb
  have up : ∀ b o, ¬ D b → s.heap.get? b = some o → (∀ es n, o.data ≠ .dict es n) → s'.heap.get? b = some o := fun b o hb e hd => S.keep b o e hb hd
  refine ⟨⟨⟨k.e.rm.step S, k.e.sc, k.e.kind, k.e.globals, k.e.builtins, fun a c q => ?_,
      ⟨k.e.loc.len, k.e.loc.vars.elim fun _ q => (Ns_obj q.1).elim fun _ e => S.out k.e.loc.out e, k.e.loc.vars.imp fun m r => ⟨ns_keepO r.1 fun o e => upO _ o (fun h => own _ h (.inl rfl)) e, fun i x v hx hv => ⟨fun hk => ((r.2 i x v hx hv).1 hk).mono S.up, fun hk => ((r.2 i x v hx hv).2 hk).imp fun c u => u.imp fun ov u =>
        ⟨u.1, u.2.1.imp fun oc w => ⟨up _ _ (fun h => own _ h (.inr ⟨x, mem_of_lookup u.1⟩)) w.1 (fun _ _ e => nomatch w.2.symm.trans e), w.2⟩, u.2.2.1.mono S.up, u.2.1.elim fun _ w => S.out u.2.2.2 w.1⟩⟩⟩⟩⟩,
      k.top, k.apart, k.nodup, fun x c hc => (k.own x c hc).elim fun h1 h2 => ⟨h1.imp fun _ h => h.imp fun _ h => ⟨up _ _ (fun hd => own _ hd (.inr ⟨x, hc⟩)) h.1 (fun _ _ e => nomatch h.2.symm.trans e), h.2⟩, h1.elim fun _ h => h.elim fun _ h => S.out h2 h.1⟩, fun a c q => ?_⟩, S.weaken fun b o _ q => .inr (hD b q), fun a c q => ?_⟩
  · by_cases h : D a
    · exact hin a c h q
    · rw [hout a h] at q
      exact (k.e.own a c q).elim fun h1 h2 => h2.elim fun o h2 => ⟨S.out h1 h2.1, (upO a o h h2.1).imp fun _ t => ⟨t.1, (h2.2.keep t.2).mono S.up⟩⟩
  · by_cases h : D a
    · exact (hD a h).elim fun c' t => (k.sep a c' t.1).imp id fun u _ => u t.2
    · rw [hout a h] at q; exact k.sep a c q
  · by_cases h : D a
    · exact .inl ((hD a h).imp fun _ t => ⟨t.1, fun _ => t.2⟩)
    · rw [hout a h] at q; exact .inl ⟨c, q, id⟩
def EvM (G : Gl) (K : Sx) (ρ : List V) (σ : Ow) (e : PySem.Expr) (R : V → Ow → Prop) : Prop :=
  ∀ A env F s E, FOk G K A env ρ σ F s → wpAny G.M A (eval e env) (fun v s' => ∃ x σ' F', Rel F' x v ∧ FOk G K A env ρ σ' F' s' ∧ Lk env σ F s σ' F' s' ∧ R x σ') E s
def trQ (dx b : Addr) (R : V → V → List V → Prop) : KS := fun fl _ σ => ∃ k ps, σ dx = some (.tr true k b) ∧ σ b = some (.lst ps) ∧ match fl with | .ret x => R x k ps | .next => R .none k ps
noncomputable def σT (σ : Ow) (dx b : Addr) (k : V) (ps : List V) : Ow := (σ.put dx (.tr true k b)).set b ps
theorem σT_dx {k : V} {ps : List V} (h : dx ≠ b) : σT σ dx b k ps dx = some (.tr true k b) := (Ow.set_ne _ _ h).trans (Ow.put_self ..)
theorem σT_b {k : V} {ps : List V} : σT σ dx b k ps b = some (.lst ps) := Ow.set_self ..
theorem σT_ne {a : Addr} {k : V} {ps : List V} (h1 : a ≠ dx) (h2 : a ≠ b) : σT σ dx b k ps a = σ a := (Ow.set_ne _ _ h2).trans (Ow.put_ne _ _ h1)
theorem call_tr {fa : Addr} {ps : List V} {R : V → V → List V → Prop} {vs : List Value} (FA : FnO G.B fa K' np B) (hlen : xs.length = np) (hG : 0 < G.d) (hd : σ dx = some (.tr true kk b)) (hb : σ b = some (.lst ps)) (hne : dx ≠ b) (body : WS G.dn K' B (xs ++ List.replicate (K'.ns.length - np) .unb) (σT σ0 dx b kk ps) (trQ dx b R)) (k : FOk G K A env ρ σ F s) (r : RelL F xs vs) :
    wpAny G.M A (call (.ref fa) vs) (fun v s' => ∃ x σ' F', Rel F' x v ∧ FOk G K A env ρ σ' F' s' ∧ Lk env σ F s σ' F' s' ∧ ∃ k' ps', R x k' ps' ∧ σ' = σT σ dx b k' ps') E s := by
  have cases2 : ∀ {a : Addr} {c : Oc}, σT σ0 dx b kk ps a = some c → (a = dx ∧ c = .tr true kk b) ∨ (a = b ∧ c = .lst ps) := fun {a c} q => by
    by_cases h1 : a = dx
    · subst h1; exact .inl ⟨rfl, Option.some.inj (q.symm.trans (σT_dx hne))⟩
    · by_cases h2 : a = b
      · subst h2; exact .inr ⟨rfl, Option.some.inj (q.symm.trans σT_b)⟩
      · exact nomatch (σT_ne h1 h2).symm.trans q
  refine wpAny_call (enter_ok FA hlen hG body k.e.rm r (fun a c q => ?_) fun fl v σ₃ F' s' hf own S d q => ?_)
  · rcases cases2 q with ⟨rfl, rfl⟩ | ⟨rfl, rfl⟩
    · exact ⟨k.e.own _ _ hd, (k.sep _ _ hd).2⟩
    · exact ⟨k.e.own _ _ hb, (k.sep _ _ hb).2⟩
  · obtain ⟨ρ', k', ps', h1, h2, h3⟩ := q
    have S' : St (fun a => a = dx ∨ a = b) F s F' s' := S.weaken fun a o _ t => t.elim fun c t => (cases2 t.1).imp (·.1) (·.1)
    have FA := k.after (σ' := σT σ dx b k' ps') S' (fun a h => h.elim (fun h => ⟨_, h ▸ hd, rfl⟩) fun h => ⟨_, h ▸ hb, rfl⟩) (fun a h => σT_ne (fun e => h (.inl e)) fun e => h (.inr e)) fun a c h q => by
      rcases h with rfl | rfl
      · cases (σT_dx hne).symm.trans q; exact own _ _ h1
      · cases σT_b.symm.trans q; exact own _ _ h2
    rcases hf with hf | ⟨rfl, rfl⟩
    · cases fl with
      | next => exact hf.elim
      | ret x => exact ⟨x, _, F', hf, FA.1, FA.2, k', ps', h3, rfl⟩
    · exact ⟨.none, _, F', rfl, FA.1, FA.2, k', ps', h3, rfl⟩
theorem evm_meth {ps : List V} {R : V → V → List V → Prop} (T : TrC G C N mN) (M : Mth G mN m f K' np B) (hd : σ dx = some (.tr true kk b)) (hb : σ b = some (.lst ps)) (hne : dx ≠ b) (h1 : Ev G K ρ σ e (trl C dx)) (ha : EvL G K ρ σ es ys) (hlen : ys.length + 1 = np) (hG : 0 < G.d) (body : WS G.dn K' B (trl C dx :: ys ++ List.replicate (K'.ns.length - np) .unb) (σT σ0 dx b kk ps) (trQ dx b R))
    (hn : ∀ n env t, attributeBase e n env t = t := by intros; rfl) (hl : (ap.endLine == p.line) = true := by rfl) (hs : es.all notStar = true := by rfl) (h8 : es.length < 8 := by exact Nat.lt_of_sub_eq_succ rfl) : EvM G K ρ σ (.Call (.Attribute e m ap) es [] p) fun x σ' => ∃ k' ps', R x k' ps' ∧ σ' = σT σ dx b k' ps' := fun A env F s E k =>
  meth_fn T M hd h1 ha hn hl hs h8 k.e fun F₂ s₂ vs S k₂ r => wpAny_mono (call_tr (xs := trl C dx :: ys) M.fn hlen hG hd hb hne body (k.step S) r) (fun v s' q => by
    obtain ⟨x, σ', F', rx, k', L, hR⟩ := q
    exact ⟨x, σ', F', rx, k', S.lk.trans L, hR⟩) fun _ _ e => e
theorem ws_exprM {R : V → Ow → Prop} (h1 : EvM G K ρ σ e R) (h : ∀ x σ', R x σ' → WS G K ss ρ σ' Q) (hs : ∀ env, swapsWith e none p.line env = pure false := by intros; rfl) : WS G K (.Expr e p :: ss) ρ σ Q :=
  ws_cons fun A env F s E k => wpAny_Expr_any (wpAny_mono (h1 A env F s E k) (fun v s' q => by
    obtain ⟨x, σ', F', _, k', L, hR⟩ := q
    exact ⟨.next, ρ, σ', F', trivial, k', L, h x σ' hR⟩) fun _ _ e => e) (by unfold interactive; rw [k.e.kind]; rfl) (hs env)
end
end Mine

set_option autoImplicit false
set_option linter.all false
set_option genSizeOf false
set_option genInjectivity false
set_option maxRecDepth 100000
namespace Mine
open PySem PySem.W PyProof.Rows
section
variable {G : Gl} {K K' : Sx} {A : Around} {env : Env} {ρ : List V} {σ σ' : Ow} {F F₁ F' : Fz} {s s₁ s' : Shared} {E : Value → Shared → Prop} {Q : KS} {e : PySem.Expr} {es : List PySem.Expr} {ss B : List Stmt} {x y z kk : V} {xs ys : List V} {p q q' ap pe pc : Pos} {w : Bool} {C N dx b f X : Addr} {mN : Str → Option Value} {m g : Str} {np : Nat}
theorem meth_raw {R : Value → Shared → Prop} (T : TrC G C N mN) (M : Mth G mN m f K' np B) (hσ : σ dx = some (.tr w kk b)) (h1 : Ev G K ρ σ e (trl C dx)) (hn : ∀ n env t, attributeBase e n env t = t) (hl : (ap.endLine == p.line) = true) (hs : es.all notStar = true) (h8 : es.length < 8) (k : EOk G K A env ρ σ F s)
    (fin : ∀ F₁ s₁ x, St N0 F s F₁ s₁ → EOk G K A env ρ σ F₁ s₁ → Rel F₁ (trl C dx) (.ref x) → wpAny G.M A (callWith p (.ref f) [.ref x] (es.map fun e => (false, eval e env)) []) R E s₁) : wpAny G.M A (eval (.Call (.Attribute e m ap) es [] p) env) R E s := by
  rw [arm_eval_Call]
  rw [hn]
  refine wpAny_bind (h1.bind k fun v F₁ s₁ S₁ r₁ k₁ => wpAny_bind (wpAny_standAt ?_))
  rw [back_star p env hs]
  have hform : methodCallForm (es.length + ([] : List Keyword).length) (es.map fun e => (false, eval e env)) (backToKw p (keywordEach [] env)) = true := by
    show ((es.map fun e => (false, eval e env)).all (fun x => !x.1) && true && decide (es.length + 0 + 0 < 30)) = true
    rw [all_false, decide_eq_true (by (exact a8 h8))]; rfl
  have hpos : methodCallPos true e env ap p = pure p := by unfold methodCallPos; simp [hl]
  unfold methodCall
  rw [hform]
  obtain ⟨x, mA, vk, rfl, I, _, _, _, _, h7⟩ := k₁.inst hσ r₁
  have X := T.cls.keeps k₁.rm.in
  obtain ⟨nm, q, bs, sn, sub, col, dd, k0, k1, k2, k3, k5, hC⟩ := X.obj
  obtain ⟨of, hof, hfc⟩ := M.isf
  have hin := k₁.rm.in
  have next := fin F₁ s₁ x S₁ k₁ r₁
  obtain ⟨hh, g, d, t, os⟩ := s₁
  exact wpAny_bind (wpAny_holding (method_of hC X.ns T.q2 T.q3 M.bound (hin _ _ hof) hfc M.no I (h7 m M.nk M.np) (wpAny_bind (wpAny_of_eq hpos next))))
theorem wr_meth_arg (T : TrC G C N mN) (M : Mth G mN m f K' np B) (hσ : σ dx = some (.tr w kk b)) (h1 : Ev G K ρ σ e (trl C dx)) (h : Rz G g xs X) (ha : EvL G K ρ σ es xs)
    (hn : ∀ n env t, attributeBase e n env t = t := by intros; rfl) (hl : (ap.endLine == p.line) = true := by rfl) (hs : es.all notStar = true := by rfl) (hg : globOK K g = true := by decide +kernel) : WR G K (.Expr (.Call (.Attribute e m ap) [.Call (.Name g q) es [] q'] [] p) pe :: ss) ρ σ X :=
  wr_here fun A env F s k => wpAny_Expr_any (meth_raw T M hσ h1 hn hl rfl (Nat.lt_of_sub_eq_succ rfl) k.e fun F₁ s₁ x S k₁ r => by
    obtain ⟨⟨of', fd, hof', hfd, _⟩, _⟩ := id M.fn
    refine Calls.callWith_function (o := of') (fd := fd) (evalArgs_list (all_false [_] env) (Calls.spliced_cons (wpAny_mono (rz_call (Q := fun _ _ => False) h ha (k.step S) hs hg) (fun _ _ q => q.elim) fun _ _ q => q.from S.lk))) ) (by unfold interactive; rw [k.e.kind]; rfl) rfl
theorem own_ro {b : Addr} (k : EOk G K A env ρ σ F s) (h : σ b = some (.ro xs)) : ∃ vs, s.heap.IsList b (List.toArray vs) ∧ RelL F xs vs := by
  obtain ⟨_, o, ho, vs, n, rfl, r⟩ := k.own b _ h
  exact ⟨vs, ⟨_, ho, rfl, n, rfl⟩, r⟩
theorem ev_lenR {b : Addr} (h1 : Ev G K ρ σ e (.ref b)) (hb : σ b = some (.ro xs)) (hl : xs.length < 2 ^ 62) (hs : notStar e = true := by rfl) (hg : globOK K "len" = true := by decide +kernel) : Ev G K ρ σ (.Call (.Name "len" q) [e] [] p) (.int xs.length) :=
  ev_len (fun A env F s E v k r => by cases show v = .ref b from r; obtain ⟨vs, h, hn⟩ := own_ro k hb; exact len_of k h hn.length hl) h1 hs hg
theorem RelL.snoc : ∀ {xs : List V} {y : V} {vs : List Value}, RelL F (xs ++ [y]) vs → ∃ us v, vs = us ++ [v] ∧ RelL F xs us ∧ Rel F y v
  | [], _, _, ⟨v, _, rfl, r, rfl⟩ => ⟨[], v, rfl, rfl, r⟩
  | _ :: _, _, _, ⟨u, ws, rfl, ru, rl⟩ => by
    obtain ⟨us, v, rfl, h1, h2⟩ := RelL.snoc rl
    exact ⟨u :: us, v, rfl, ⟨u, us, rfl, ru, h1⟩, h2⟩
theorem pop_ok {a : Addr} {R : Value → Shared → Prop} (k : FOk G K A env ρ σ F s) (ha : σ a = some (.lst (xs ++ [y]))) (hl : xs.length ≤ 10000)
    (h : ∀ v h', Rel F y v → FOk G K A env ρ (σ.set a xs) F { s with heap := h' } → Lk env σ F s (σ.set a xs) F { s with heap := h' } → R v { s with heap := h' }) : wpAny G.M A (call (.builtin "list.pop") [.ref a]) R E s := by
  obtain ⟨hF, vs, n, hv, rl⟩ := k.e.lst a _ ha
  obtain ⟨us, v, rfl, r1, r2⟩ := rl.snoc
  have hlen : us.length ≤ 10000 := by rw [r1.length]; exact hl
  have hsz : (us ++ [v]).toArray.size = us.length + 1 := by simp
  have e0 : (us ++ [v]).eraseIdx us.length = us := by rw [List.eraseIdx_append_of_length_le (Nat.le_refl _), Nat.sub_self]; exact List.append_nil us
  have e : ∃ m, Obj.mapSeq (fun xs => xs.eraseIdxIfInBounds ((us ++ [v]).toArray.size - 1)) (lobj (us ++ [v]) n) = lobj us m := ⟨_, by rw [hsz, Nat.add_sub_cancel]; simp only [Obj.mapSeq, lobj, List.eraseIdxIfInBounds_toArray, e0]; rfl⟩
  obtain ⟨m, e⟩ := e
  have hfin : (s.heap.update a (Obj.mapSeq fun xs => xs.eraseIdxIfInBounds ((us ++ [v]).toArray.size - 1))).get? a = some (lobj us m) := (Heap.get?_update_self _ hv (by rw [e]; rfl)).trans (congrArg some e)
  have kk := k.put (t := s.toks) ha (Heap.SameBut.update ..).extBut hfin r1
  exact call_meets PySem.F.slot_list_pop ⟨_, hv, rfl⟩ PySem.F.entry_list_pop (PySem.F.args_list_pop_1 _) (PySem.MeetsSeq.list_pop_last a _ n v (by rw [hsz]; simp) (by rw [hsz]; exact Nat.le_trans (Nat.succ_le_succ hlen) (by decide))) ⟨hv, h v _ r2 kk.1 kk.2⟩
theorem ws_popT {n n' : Str} {q₂ q₃ q₄ : Pos} (T : TrC G C N mN) (hd : σ dx = some (.tr true kk b)) (hb : σ b = some (.lst (xs ++ [y]))) (hne : dx ≠ b) (hl : xs.length ≤ 10000) (hy : ∀ F v, Rel F y v → ∀ i, v ≠ .builtin i) (h1 : Ev G K ρ σ (.Name n q) (trl C dx)) (h2 : Ev G K ρ (σ.set b xs) (.Name n' q₂) (trl C dx)) (h : WS G K ss ρ ((σ.set b xs).put dx (.tr true y b)) Q)
    (hp : (ap.endLine == q₄.line) = true := by rfl) : WS G K (.Assign [.Attribute (.Name n' q₂) "kept" q'] (.Call (.Attribute (.Attribute (.Name n q) "past" q₃) "pop" ap) [] [] q₄) p :: ss) ρ σ Q :=
  ws_cons fun A env F s E k => plainObj_wpAny_Assign_Attribute (meth_ok (id := "list.pop") (ev_pastT T hd h1) (by intros; rfl) hp rfl (by decide) evl_nil k.e
    (fun F s v pl Q k r hq => by
      cases show v = .ref b from r
      obtain ⟨_, vs, n, hv, _⟩ := k.lst b _ hb
      exact getMethod_list_of PySem.F.slot_list_pop PySem.F.type_list_pop ⟨_, hv, rfl, n, rfl⟩ ⟨_, hv, rfl⟩ hq)
    (fun v vs F₁ s₁ S₁ k₁ r₁ rl => by
      cases show v = .ref b from r₁
      cases show vs = [] from rl
      refine pop_ok (k.step S₁) hb hl fun u h' ru k₂ L₂ => h2.bind k₂.e fun o F₃ s₃ S₃ r₃ k₃ => ?_
      obtain ⟨x, ox, _, _, rfl, hx, _, hp'⟩ := r₃
      exact store_kept T (k₂.step S₃) ((Ow.set_ne _ _ hne).trans hd) hx hp' (ru.mono S₃.up) (hy _ _ ru) fun h'' t k₄ L₄ => ⟨.next, ρ, _, F₃, trivial, k₄, ((S₁.lk.trans L₂).trans S₃.lk).trans L₄, h⟩)) rfl
end
end Mine

set_option autoImplicit false
set_option linter.all false
set_option genSizeOf false
set_option genInjectivity false
set_option maxRecDepth 100000
namespace Mine
open PySem PySem.W PyProof.Rows
section
variable {G : Gl} {a : List Nat} {i : Int}
theorem cm_eq_str_int : Cm G .Eq (.str a) (.int i) false := by rintro A F s E _ _ R _ ⟨_, rfl⟩ ⟨_, rfl⟩ h; exact PySem.EqMixed.eq_str_int h
theorem cm_eq_str_none : Cm G .Eq (.str a) .none false := by rintro A F s E _ _ R _ ⟨_, rfl⟩ rfl h; exact PySem.EqNone.eq_str_none h
end
def Ro (σ σc : Ow) : Prop := ∀ a c, σc a = some c → c.rw = false ∧ ∃ c', σ a = some c' ∧ ∀ F o, OcR F o c' → OcR F o c
section
variable {G : Gl} {K K' : Sx} {A : Around} {env : Env} {ρ : List V} {σ σ' σc : Ow} {F F₁ F' : Fz} {s s₁ s' : Shared} {E : Value → Shared → Prop} {Q : KS} {e c : PySem.Expr} {es : List PySem.Expr} {ss B body : List Stmt} {x y z kk : V} {xs ys ps : List V} {p q q' ap pe pc : Pos} {w : Bool} {C N dx b f X : Addr} {mN : Str → Option Value} {m g : Str} {np : Nat}
theorem Ro.own (h : Ro σ σc) (k : EOk G K A env ρ σ F s) : ∀ a c, σc a = some c → F a = none ∧ ∃ o, s.heap.get? a = some o ∧ OcR F o c := fun a c q => by
  obtain ⟨_, c', e, t⟩ := h a c q
  exact (k.own a c' e).imp id fun u => u.imp fun o u => ⟨u.1, t F o u.2⟩
theorem Ro.rw (h : Ro σ σc) : ∀ a c, σc a = some c → c.rw = false := fun a c q => (h a c q).1
theorem ev_callR (FA : FnAt G.B G.mg g K' np B) (hR : Ro σ σc) (ha : EvL G K ρ σ es xs) (hlen : xs.length = np) (hd : 0 < G.d) (body : WS G.dn K' B (xs ++ List.replicate (K'.ns.length - np) .unb) σc (retQ z)) (hs : es.all notStar = true := by rfl) (hg : globOK K g = true := by decide +kernel) : Ev G K ρ σ (.Call (.Name g q) es [] p) z := fun A env F s E k => by
  obtain ⟨o, fd, hf, ho, hfd, _⟩ := FA.obj
  refine wpAny_Call_NameR (name_global k (.inl hf) hg ?_)
  rw [back_star p env hs]
  exact Calls.callWith_function (evalArgs_list (all_false es env) (ha.bind k fun vs F₁ s₁ S₁ r₁ k₁ => ⟨⟨k₁.rm.in _ _ ho, hfd⟩, wpAny_mono (pureO_ro (P := (· = z)) FA.o hlen hd hR.rw (ws_mono body fun fl ρ σ q => by cases fl; exact q.symm; exact ⟨z, q, rfl⟩) k₁.rm r₁ (hR.own k₁)) (fun _ _ q => q.elim fun _ q => q.1 ▸ q.2.from S₁) fun _ _ e => e⟩))
theorem wr_methR (T : TrC G C N mN) (M : Mth G mN m f K' np B) (hσ : σ dx = some (.tr w kk b)) (hR : Ro σ σc) (h1 : Ev G K ρ σ e (trl C dx)) (ha : EvL G K ρ σ es ys) (hlen : ys.length + 1 = np) (hd : 0 < G.d) (body : WR G.dn K' B (trl C dx :: ys ++ List.replicate (K'.ns.length - np) .unb) σc X)
    (hn : ∀ n env t, attributeBase e n env t = t := by intros; rfl) (hl : (ap.endLine == p.line) = true := by rfl) (hs : es.all notStar = true := by rfl) (h8 : es.length < 8 := by exact Nat.lt_of_sub_eq_succ rfl) : WR G K (.Expr (.Call (.Attribute e m ap) es [] p) pe :: ss) ρ σ X :=
  wr_here fun A env F s k => wpAny_Expr_any (meth_fn T M hσ h1 ha hn hl hs h8 k.e fun F₂ s₂ vs S k₂ r => wpAny_mono (rzO_ro (xs := trl C dx :: ys) M.fn hlen hd hR.rw body k₂.rm r (hR.own k₂)) (fun _ _ q => q.elim) fun _ _ q => (px_of_pe (k.step S) q).from S.lk) (by unfold interactive; rw [k.e.kind]; rfl) rfl
theorem evm_call {R : V → V → List V → Prop} (FA : FnAt G.B G.mg g K' np B) (hd : σ dx = some (.tr true kk b)) (hb : σ b = some (.lst ps)) (hne : dx ≠ b) (ha : EvL G K ρ σ es xs) (hlen : xs.length = np) (hG : 0 < G.d) (body : WS G.dn K' B (xs ++ List.replicate (K'.ns.length - np) .unb) (σT σ0 dx b kk ps) (trQ dx b R))
    (hs : es.all notStar = true := by rfl) (hg : globOK K g = true := by decide +kernel) : EvM G K ρ σ (.Call (.Name g q) es [] p) fun x σ' => ∃ k' ps', R x k' ps' ∧ σ' = σT σ dx b k' ps' := fun A env F s E k => by
  obtain ⟨o, fd, hf, ho, hfd, _⟩ := FA.obj
  refine wpAny_Call_NameR (name_global k.e (.inl hf) hg ?_)
  rw [back_star p env hs]
  refine Calls.callWith_function (evalArgs_list (all_false es env) (ha.bind k.e fun vs F₁ s₁ S₁ r₁ k₁ => ⟨⟨k₁.rm.in _ _ ho, hfd⟩, wpAny_mono (call_tr FA.o hlen hG hd hb hne body (k.step S₁) r₁) (fun v s' q => ?_) fun _ _ e => e⟩))
  obtain ⟨x, σ', F', rx, k', L, hR⟩ := q
  exact ⟨x, σ', F', rx, k', S₁.lk.trans L, hR⟩
def TrM (G : Gl) (K : Sx) (ρ : List V) (σ : Ow) (e : PySem.Expr) (R : Bool → Ow → Prop) : Prop :=
  ∀ A env F s E, FOk G K A env ρ σ F s → wpAny G.M A (isTrue e env (eval e env)) (fun v s' => ∃ σ' F', FOk G K A env ρ σ' F' s' ∧ Lk env σ F s σ' F' s' ∧ R v σ') E s
theorem trm_ev {v : Bool} {R : V → Ow → Prop} (h : EvM G K ρ σ e R) (hv : ∀ x σ', R x σ' → x = .bool v) (hp : plainTest e = true := by rfl) : TrM G K ρ σ e fun u σ' => u = v ∧ R (.bool v) σ' := fun A env F s E k => by
  rw [isTrue_plain hp]
  refine wpAny_bind (wpAny_mono (h A env F s E k) (fun u s₁ q => ?_) fun _ _ e => e)
  obtain ⟨x, σ', F', rx, k', L, hR⟩ := q
  cases hv x σ' hR
  cases show u = .bool v from rx
  exact wpAny_bind (wpAny_standAt (wpAny_holding (wpAny_truthy_bool ⟨σ', F', k', L, rfl, hR⟩)))
theorem ws_ifM {a b' : List Stmt} {R : Bool → Ow → Prop} (h1 : TrM G K ρ σ c R) (ht : ∀ σ', R true σ' → WS G K a ρ σ' (Kc G K ss Q)) (hf : ∀ σ', R false σ' → WS G K b' ρ σ' (Kc G K ss Q)) : WS G K (.If c a b' p :: ss) ρ σ Q :=
  ws_cons fun A env F s E k => wpAny_If (wpAny_mono (h1 A env F s E k) (fun v s₁ q => by
    obtain ⟨σ', F', k', L, hR⟩ := q
    cases v
    · exact ws_from L (hf σ' hR A env F' s₁ E k')
    · exact ws_from L (ht σ' hR A env F' s₁ E k')) fun _ _ e => e)
end
section
variable {M : Model} {A : Around} {E : Value → Shared → Prop} {h : Heap} {g : Array GenState} {d : Drawn} {t : Nat} {os : OsState}
variable {nm q nm' q' : Str} {C N C' N' : Addr} {bs bm bs' bm' : List Value} {hdct hdct' : Bool} {sn sn' : List Str} {sub sub' : List Value} {ab ab' : Bool} {col col' : Option Bool} {dd dd' : Option Addr} {k0 k1 k2 k3 k5 l0 l1 l2 l3 l5 : Option Value} {newId newId' : String}
theorem exc_yes {e : Addr} {oe : Obj} {Q : Bool → Shared → Prop} (hC : h.get? C = some (excClassObj nm q C N bs bm hdct sn sub ab col dd k0 k1 k2 k3 k5 newId)) (hC' : h.get? C' = some (excClassObj nm' q' C' N' bs' bm' hdct' sn' sub' ab' col' dd' l0 l1 l2 l3 l5 newId')) (he : h.get? e = some oe) (hcls : oe.cls = .ref C)
    (hbase : bm'.contains (.type "BaseException") = true) (hyes : (Value.ref C :: bm).contains (.ref C') = true) (hq : Q true ⟨h, g, d, t, os⟩) : wpAny M A (excMatches (.ref e) (.ref C')) Q E ⟨h, g, d, t, os⟩ := by
  have hcB : (Value.ref C' :: bm').contains (.type "BaseException") = true := by rw [List.contains_cons, hbase, Bool.or_true]
  have f := tc_notTuple
  unfold excMatches
  repeat (first | (with_reducible refine wpAny_loadPart_at he ?_; rw [hcls]) | with_reducible refine wpAny_loadPart_at hC' ?_ | (with_reducible refine wpAny_isSubtype_exc hC' ?_; rw [hcB]) | (with_reducible refine wpAny_isSubtype_exc hC ?_; rw [hyes]) | wp_step)
  exact hq
end
section
variable {G : Gl} {K : Sx} {A : Around} {env : Env} {ρ : List V} {σ : Ow} {F : Fz} {s : Shared} {E : Value → Shared → Prop} {Q : KS} {ss body : List Stmt} {C T : Addr} {p np pos pr pc : Pos} {x t : Str} {hs : List ExceptHandler} {v : Bool} {kc : Nat}
theorem ws_try0 (hb : WR G K body ρ σ C) (X : XC G x C) (X' : XC G t T) (hm : mroAt G.mg G.B x t) (hq : ∀ ρ σ, Q (.ret (.bool v)) ρ σ) (hg : globOK K t = true := by decide +kernel) :
    WS G K (.Try body (.ExceptHandler (some (.Name t np)) none [.Return (some (.Constant (.bool v) kc pc)) pr] pos :: hs) [] [] p :: ss) ρ σ Q :=
  ws_cons fun A env F s E k => wpAny_Try_except (wpAny_mono (hb A env F s k) (fun _ _ q => q.elim) fun u s₁ q => px_note q fun e ρ₁ σ₁ F₁ s₁ F' B L outer a0 h₁ hv hf H hh => by
    subst hv
    refine wpAny_landsW hh fun h₂ hfl u => ?_
    have H₂ := H.turn hfl.1 u
    have k₂ := H₂.k.step H₂.S
    obtain ⟨oe, vs, he, hc, _⟩ := hfl.first
    refine wpAny_handleBy_cons (codeAny_handlers_test (k₂.sg.glob (.inl X'.own.bound) hg ?_)) (by intro q; cases q)
    obtain ⟨tl, N, nm, qn, bs, hdct, sn, sub, ab, col, dd, k0, k1, k2, k3, k5, mN, hC, _, _, _⟩ := X.own.obj
    obtain ⟨tl', N', nm', qn', bs', hdct', sn', sub', ab', col', dd', l0, l1, l2, l3, l5, mN', hC', _, _, T'⟩ := X'.own.obj
    refine exc_yes (k₂.e.rm.in _ _ hC) (k₂.e.rm.in _ _ hC') he hc (T'.hasType (by decide +kernel)) ?_ (codeAny_handlers_suite ?_)
    · obtain ⟨C₁, T₁, o, cd, h1, h2, h3, h4, h5⟩ := hm
      cases X.own.bound.symm.trans h1
      cases X'.own.bound.symm.trans h2
      cases hC.symm.trans h3
      cases h4
      exact h5
    · refine lands_againW hfl fun h₃ hfl₃ u₃ => ?_
      have H₃ := H₂.turn hfl₃.1 u₃
      have k₃ := H₃.k.step H₃.S
      refine wpAny_execs_cons (wpAny_Return_some ?_)
      rw [eval_Constant]
      exact wpAny_pure ⟨.ret (.bool v), ρ₁, σ₁, F', rfl, k₃, H₃.l.trans H₃.S.lk, hq _ _⟩)
end
end Mine

set_option autoImplicit false
set_option linter.all false
set_option genSizeOf false
set_option genInjectivity false
set_option maxRecDepth 100000
namespace Mine
open PySem PySem.W PyProof.Rows
section
variable {G : Gl} {K K' : Sx} {A : Around} {env : Env} {ρ : List V} {σ σ' σc : Ow} {F F₁ F' : Fz} {s s₁ s' : Shared} {E : Value → Shared → Prop} {Q : KS} {e e' c : PySem.Expr} {es : List PySem.Expr} {ss B body : List Stmt} {x y z kk : V} {xs ys ps ws : List V} {p q q' ap pe pc : Pos} {w : Bool} {C N dx b f X pa : Addr} {mN : Str → Option Value} {m g : Str} {np : Nat}
theorem ev_slcS {l : PySem.Expr} {lo hi : Option PySem.Expr} {m n : Option Int} (h1 : Ev G K ρ σ l (.scr xs)) (h2 : EvO G K ρ σ lo m) (h3 : EvO G K ρ σ hi n) (hl : xs.length ≤ sizeLine) : Ev G K ρ σ (.Subscript l (.Slice lo hi none q) p) (.lst (slice xs m n)) :=
  ev_slc_gen h1 h2 h3 hl fun A env F s v k r => by
    obtain ⟨a, vs, rfl, ⟨o, hF, hc, n, hd⟩, rl⟩ := r
    exact ⟨a, vs, rfl, ⟨o, k.rm.sub _ _ hF, hc, n, hd⟩, rl⟩
end
end Mine

set_option autoImplicit false
set_option linter.all false
set_option genSizeOf false
set_option genInjectivity false
set_option maxRecDepth 100000
namespace Mine
open PySem PySem.W PyProof.Rows
section
variable {G : Gl} {K : Sx} {A : Around} {env : Env} {ρ : List V} {σ : Ow} {F F' : Fz} {s s' : Shared} {E : Value → Shared → Prop} {Q : KS} {l l₂ r : PySem.Expr} {ss : List Stmt} {xs ys : List V} {p q q' q₂ : Pos} {b c dx : Addr}
end
end Mine

set_option autoImplicit false
set_option linter.all false
set_option genSizeOf false
set_option genInjectivity false
set_option maxRecDepth 100000
namespace Mine
open PySem PyProof.Rows PySem.W PySem.SeqAt
section
variable {G : Gl}
end
end Mine

set_option autoImplicit false
set_option linter.all false
set_option genSizeOf false
set_option genInjectivity false
set_option maxRecDepth 100000
namespace Mine
open PySem PySem.W PyProof.Rows
section
variable {G : Gl} {K : Sx} {A : Around} {env : Env} {ρ : List V} {σ : Ow} {F : Fz} {s : Shared} {E : Value → Shared → Prop} {l e e' c : PySem.Expr} {x y z : V} {p q pc : Pos} {a a' : List Nat} {kc : Nat}
theorem cm_ges : Cm G .GtE (.str a) (.str a') (!decide (a < a')) := by rintro A F s E _ _ R _ ⟨_, rfl⟩ ⟨_, rfl⟩ h; exact P.ge_str h
theorem cm_les : Cm G .LtE (.str a) (.str a') (!decide (a' < a)) := by rintro A F s E _ _ R _ ⟨_, rfl⟩ ⟨_, rfl⟩ h; exact P.le_str h
theorem getItem_two {t sl : Addr} {v₀ v₁ v₂ : Value} {u : Tok} {Q : Value → Shared → Prop} (ht : IsTup s.heap t #[v₀, v₁, v₂]) (hs : s.heap.IsSliceOf sl .none (.int 2 u) .none)
    (h : Q (.ref s.heap.objs.size) { s with heap := s.heap.push { cls := .type "tuple", data := .seq #[v₀, v₁] } }) : wpAny G.M A (getItem (.ref t) (.ref sl)) Q E s := by
  have hsz : sizeOk (.seq #[v₀, v₁]) := by show 2 ≤ sizeLine; decide
  obtain ⟨os, hos, hcs, hds⟩ := id hs
  have hTs : s.TypeIs (.ref sl) "slice" := ⟨os, hos, hcs⟩
  unfold getItem
  try with_reducible refine wpAny_holding ?_
  first | refine wpAny_bind (wpAny_pure ?_) | skip
  refine wpAny_bind (wpAny_sequenceKey ht.typeIs (by decide) ?_)
  refine wpAny_bind (wpAny_callSpecial?_slot (name := Str.ofString "__getitem__") ht.typeIs slot_tuple_getitem
    (wpAny_call_entry slot_tuple_getitem ht.typeIs entry_tuple_getitem ?_ (args_tuple_getitem _ _)))
  show wpAny _ _ (Builtin.Tuple.tupleItemsOf (.ref t) >>= _) _ _ s
  refine wpAny_bind (tupleItemsOf_ ht ?_)
  refine wpAny_bind (wpAny_typeOf hTs ?_)
  rw [if_pos (by decide)]
  refine wpAny_bind ?_
  unfold Builtin.Slice.sliceApplied Builtin.Slice.sliceFields
  refine wpAny_bind (wpAny_bind (wpAny_field hos hds (x := .none) rfl (wpAny_bind (wpAny_field hos hds (x := .int 2 u) rfl (wpAny_bind (wpAny_field hos hds (x := .none) rfl (wpAny_pure ?_)))))))
  refine wpAny_bind (slicePart_none ?_)
  show wpAny _ _ (if ((1 : Int) == 0) = true then _ else _) _ _ s
  rw [if_neg (by decide)]
  refine wpAny_bind (slicePart_none (wpAny_bind (slicePart_int (wpAny_bind (wpAny_pure (wpAny_pure ?_))))))
  first
    | exact wpAny_bind (m := Builtin.Tuple.tupleExact _) (wpAny_newObj_type (wpAny_pure ⟨_, rfl, wpAny_pure h⟩) hsz)
    | exact wpAny_bind (m := Builtin.Tuple.tupleExact _) (wpAny_newObj_type (wpAny_bind (wpAny_pure (wpAny_pure ⟨_, rfl, wpAny_pure h⟩))) hsz)
    | exact wpAny_bind (wpAny_bind (m := Builtin.Tuple.tupleExact _) (wpAny_newObj_type (wpAny_pure (wpAny_pure ⟨_, rfl, wpAny_pure h⟩)) hsz))
    | exact wpAny_bind (wpAny_bind (m := Builtin.Tuple.tupleExact _) (wpAny_newObj_type (wpAny_pure ⟨_, rfl, wpAny_pure h⟩) hsz))
theorem ev_slc2 {q₁ : Pos} (h1 : Ev G K ρ σ l (.tup [x, y, z])) : Ev G K ρ σ (.Subscript l (.Slice none (some (.Constant (.int 2) kc q₁)) none q) p) (.tup [x, y]) :=
  fun A env F₀ s E k => Subscript_ (h1.bind k fun v F₁ s₁ S₁ r₁ k₁ => wpAny_Slice (evo_none A env F₁ s₁ E _ k₁ fun vl F₂ s₂ S₂ pl k₂ => (evo_some ev_int) A env F₂ s₂ E _ k₂ fun vu F₃ s₃ S₃ pu k₃ => wpAny_evalPart_none (by
    have S₄ : St N0 F₃ s₃ F₃ { s₃ with heap := s₃.heap.push { cls := .type "slice", data := .fields #[vl, vu, .none] } } := St.grow k₃.rm.sub fun _ _ e => Heap.get?_push_of_some _ e
    have k₄ := k₃.step S₄
    obtain ⟨b, _, rfl, ⟨n, hF⟩, v₀, _, rfl, r0, v₁, _, rfl, r1, v₂, _, rfl, r2, rfl⟩ := (r₁.mono S₂.up).mono S₃.up
    cases pl
    cases pu
    have ht : IsTup (s₃.heap.push { cls := .type "slice", data := .fields #[Value.none, Value.int 2 ‹Tok›, Value.none] }) b #[v₀, v₁, v₂] := ⟨_, k₄.rm.sub _ _ hF, rfl, n, rfl⟩
    refine tail_any (ops := [.ref s₃.heap.objs.size, .ref b]) ht.typeIs slot_tuple_getitem.lookup ?_ rfl
    refine wp_from (((S₁.trans S₂).trans S₃).trans S₄) (getItem_two ht ⟨_, Heap.get?_push_size _ rfl, rfl, rfl⟩ ?_)
    exact pv_push k₄.rm (tobj [v₀, v₁] 0) s₃.toks ⟨_, _, rfl, ⟨0, Fz.add_self⟩, v₀, _, rfl, r0.mono (add_up k₄.rm), v₁, _, rfl, r1.mono (add_up k₄.rm), rfl⟩ rfl)))
theorem cm_eq_strs2 : Cm G .Eq (.tup [.str a, .str a']) (.tup [.str a, .str a']) true := by
  rintro A F s E _ _ R k ⟨l, _, rfl, ⟨n, hl⟩, _, _, rfl, ⟨t, rfl⟩, _, _, rfl, ⟨u, rfl⟩, rfl⟩ ⟨l', _, rfl, ⟨n', hl'⟩, _, _, rfl, ⟨t', rfl⟩, _, _, rfl, ⟨u', rfl⟩, rfl⟩ h
  refine SeqAt.RcAt.tuples (e := fun _ => true) ⟨_, k.sub _ _ hl, rfl, n, rfl⟩ ⟨_, k.sub _ _ hl', rfl, n', rfl⟩ k.room (fun j h1 h2 => ?_) _ _ _ _ h
  match j with
  | 0 =>
    have := (eqGives_str ⟨a.toArray⟩ ⟨a.toArray⟩ t t').at A.in1 s
    rw [beq_self_eq_true] at this
    exact this
  | 1 =>
    have := (eqGives_str ⟨a'.toArray⟩ ⟨a'.toArray⟩ u u').at A.in1 s
    rw [beq_self_eq_true] at this
    exact this
theorem trm_not {R : Bool → Ow → Prop} (h : TrM G K ρ σ e R) : TrM G K ρ σ (.UnaryOp .Not e p) fun u σ' => R (!u) σ' := fun A env F s E k => by
  show wpAny _ A (do return !(← isTrue e env (eval e env))) _ _ s
  exact wpAny_bind (wpAny_mono (h A env F s E k) (fun v s' q => wpAny_pure (by
    obtain ⟨σ', F', k', L, hR⟩ := q
    exact ⟨σ', F', k', L, by show R (!!v) σ'; rw [Bool.not_not]; exact hR⟩)) fun _ _ e => e)
theorem trm_andF {R : Bool → Ow → Prop} {es : List PySem.Expr} (h : TrM G K ρ σ e R) (hv : ∀ u σ', R u σ' → u = false) : TrM G K ρ σ (.BoolOp .And (e :: es) p) fun u σ' => u = false ∧ R false σ' := fun A env F s E k =>
  wpAny_bind (wpAny_mono (h A env F s E k) (fun v s' q => by
    obtain ⟨σ', F', k', L, hR⟩ := q
    cases hv v σ' hR
    exact wpAny_pure ⟨σ', F', k', L, rfl, hR⟩) fun _ _ e => e)
end
end Mine

set_option autoImplicit false
set_option linter.all false
set_option maxRecDepth 100000
namespace Mine
open PySem PySem.W PyProof.Rows
def stA (k : Nat) : Stmt := PP.main.body.getD k (.Pass default)
def fB : Stmt → List Stmt
  | .FunctionDef _ _ b _ _ _ _ _ _ _ => b
  | _ => []
def fS : Stmt → Scope
  | .FunctionDef _ _ _ _ _ _ s _ _ _ => s
  | _ => default
def cB : Stmt → List Stmt
  | .ClassDef _ _ _ b _ _ _ _ _ _ _ => b
  | _ => []
def K_is_sign : Sx := ⟨fS (stA 13), ["sign", "place"]⟩
abbrev B_is_sign : List Stmt := fB (stA 13)
abbrev A_is_sign (G : Gl) : Prop := FnAt G.B G.mg "is_sign" K_is_sign 1 B_is_sign
def K_is_name : Sx := ⟨fS (stA 14), ["thing"]⟩
abbrev B_is_name : List Stmt := fB (stA 14)
abbrev A_is_name (G : Gl) : Prop := FnAt G.B G.mg "is_name" K_is_name 1 B_is_name
def K_common : Sx := ⟨fS (stA 15), ["one", "other", "size"]⟩
abbrev B_common : List Stmt := fB (stA 15)
abbrev A_common (G : Gl) : Prop := FnAt G.B G.mg "common" K_common 2 B_common
def K_rest : Sx := ⟨fS (stA 16), ["name", "beginning"]⟩
abbrev B_rest : List Stmt := fB (stA 16)
abbrev A_rest (G : Gl) : Prop := FnAt G.B G.mg "rest" K_rest 2 B_rest
def K_gather : Sx := ⟨fS (stA 18), ["tree", "text", "pairs", "sign", "below"]⟩
abbrev B_gather : List Stmt := fB (stA 18)
abbrev A_gather (G : Gl) : Prop := FnAt G.B G.mg "gather" K_gather 3 B_gather
def K_names : Sx := ⟨fS (stA 19), ["tree", "pairs"]⟩
abbrev B_names : List Stmt := fB (stA 19)
abbrev A_names (G : Gl) : Prop := FnAt G.B G.mg "names" K_names 1 B_names
def K_gather_knots : Sx := ⟨fS (stA 20), ["tree", "text", "pairs", "sign", "below"]⟩
abbrev B_gather_knots : List Stmt := fB (stA 20)
abbrev A_gather_knots (G : Gl) : Prop := FnAt G.B G.mg "gather_knots" K_gather_knots 3 B_gather_knots
def K_knots : Sx := ⟨fS (stA 21), ["tree", "pairs"]⟩
abbrev B_knots : List Stmt := fB (stA 21)
abbrev A_knots (G : Gl) : Prop := FnAt G.B G.mg "knots" K_knots 1 B_knots
def K_name_of : Sx := ⟨fS (stA 22), ["pair"]⟩
abbrev B_name_of : List Stmt := fB (stA 22)
abbrev A_name_of (G : Gl) : Prop := FnAt G.B G.mg "name_of" K_name_of 1 B_name_of
def K_grouped : Sx := ⟨fS (stA 23), ["pairs", "size", "groups", "name", "number", "sign"]⟩
abbrev B_grouped : List Stmt := fB (stA 23)
abbrev A_grouped (G : Gl) : Prop := FnAt G.B G.mg "grouped" K_grouped 2 B_grouped
def K_built : Sx := ⟨fS (stA 24), ["pairs", "shared", "branches", "sign", "group"]⟩
abbrev B_built : List Stmt := fB (stA 24)
abbrev A_built (G : Gl) : Prop := FnAt G.B G.mg "built" K_built 1 B_built
def K_built_of : Sx := ⟨fS (stA 25), ["pairs"]⟩
abbrev B_built_of : List Stmt := fB (stA 25)
abbrev A_built_of (G : Gl) : Prop := FnAt G.B G.mg "built_of" K_built_of 1 B_built_of
def K_branch_at : Sx := ⟨fS (stA 26), ["branches", "sign", "own", "below"]⟩
abbrev B_branch_at : List Stmt := fB (stA 26)
abbrev A_branch_at (G : Gl) : Prop := FnAt G.B G.mg "branch_at" K_branch_at 2 B_branch_at
def K_found : Sx := ⟨fS (stA 27), ["tree", "name", "behind"]⟩
abbrev B_found : List Stmt := fB (stA 27)
abbrev A_found (G : Gl) : Prop := FnAt G.B G.mg "found" K_found 2 B_found
def K_put : Sx := ⟨fS (stA 28), ["tree", "name", "number", "others"]⟩
abbrev B_put : List Stmt := fB (stA 28)
abbrev A_put (G : Gl) : Prop := FnAt G.B G.mg "put" K_put 3 B_put
def K_without : Sx := ⟨fS (stA 29), ["tree", "name"]⟩
abbrev B_without : List Stmt := fB (stA 29)
abbrev A_without (G : Gl) : Prop := FnAt G.B G.mg "without" K_without 2 B_without
def K_under : Sx := ⟨fS (stA 31), ["tree", "beginning"]⟩
abbrev B_under : List Stmt := fB (stA 31)
abbrev A_under (G : Gl) : Prop := FnAt G.B G.mg "under" K_under 2 B_under
def K_many : Sx := ⟨fS (stA 32), ["tree", "beginning"]⟩
abbrev B_many : List Stmt := fB (stA 32)
abbrev A_many (G : Gl) : Prop := FnAt G.B G.mg "many" K_many 2 B_many
def K_parted : Sx := ⟨fS (stA 34), ["tree", "beginning", "outside", "inside", "name", "number", "behind"]⟩
abbrev B_parted : List Stmt := fB (stA 34)
abbrev A_parted (G : Gl) : Prop := FnAt G.B G.mg "parted" K_parted 2 B_parted
def K_need_free : Sx := ⟨fS (stA 35), ["ones", "others", "kept", "name", "number"]⟩
abbrev B_need_free : List Stmt := fB (stA 35)
abbrev A_need_free (G : Gl) : Prop := FnAt G.B G.mg "need_free" K_need_free 2 B_need_free
def K_cut : Sx := ⟨fS (stA 36), ["tree", "beginning", "parts"]⟩
abbrev B_cut : List Stmt := fB (stA 36)
abbrev A_cut (G : Gl) : Prop := FnAt G.B G.mg "cut" K_cut 2 B_cut
def K_renamed : Sx := ⟨fS (stA 37), ["tree", "beginning", "other", "inside"]⟩
abbrev B_renamed : List Stmt := fB (stA 37)
abbrev A_renamed (G : Gl) : Prop := FnAt G.B G.mg "renamed" K_renamed 3 B_renamed
def K_moved : Sx := ⟨fS (stA 38), ["tree", "beginning", "other", "changed", "stay"]⟩
abbrev B_moved : List Stmt := fB (stA 38)
abbrev A_moved (G : Gl) : Prop := FnAt G.B G.mg "moved" K_moved 3 B_moved
def K_copied : Sx := ⟨fS (stA 39), ["tree", "beginning", "other", "more", "stay"]⟩
abbrev B_copied : List Stmt := fB (stA 39)
abbrev A_copied (G : Gl) : Prop := FnAt G.B G.mg "copied" K_copied 3 B_copied
def K_need_name : Sx := ⟨fS (stA 42), ["thing"]⟩
abbrev B_need_name : List Stmt := fB (stA 42)
abbrev A_need_name (G : Gl) : Prop := FnAt G.B G.mg "need_name" K_need_name 1 B_need_name
def K_Trail_init : Sx := ⟨fS ((cB (stA 43)).getD 0 (.Pass default)), ["self"]⟩
abbrev B_Trail_init : List Stmt := fB ((cB (stA 43)).getD 0 (.Pass default))
def K_Trail_become : Sx := ⟨fS ((cB (stA 43)).getD 1 (.Pass default)), ["self", "after_it"]⟩
abbrev B_Trail_become : List Stmt := fB ((cB (stA 43)).getD 1 (.Pass default))
def K_Trail_need_under : Sx := ⟨fS ((cB (stA 43)).getD 2 (.Pass default)), ["self", "beginning", "count"]⟩
abbrev B_Trail_need_under : List Stmt := fB ((cB (stA 43)).getD 2 (.Pass default))
def K_Trail_need_short : Sx := ⟨fS ((cB (stA 43)).getD 3 (.Pass default)), ["self", "beginning", "other", "name", "number"]⟩
abbrev B_Trail_need_short : List Stmt := fB ((cB (stA 43)).getD 3 (.Pass default))
def K_Trail_keep : Sx := ⟨fS ((cB (stA 43)).getD 4 (.Pass default)), ["self", "name", "number", "before"]⟩
abbrev B_Trail_keep : List Stmt := fB ((cB (stA 43)).getD 4 (.Pass default))
def K_Trail_drop : Sx := ⟨fS ((cB (stA 43)).getD 5 (.Pass default)), ["self", "name", "before"]⟩
abbrev B_Trail_drop : List Stmt := fB ((cB (stA 43)).getD 5 (.Pass default))
def K_Trail_prune : Sx := ⟨fS ((cB (stA 43)).getD 6 (.Pass default)), ["self", "beginning", "count"]⟩
abbrev B_Trail_prune : List Stmt := fB ((cB (stA 43)).getD 6 (.Pass default))
def K_Trail_move : Sx := ⟨fS ((cB (stA 43)).getD 7 (.Pass default)), ["self", "beginning", "other", "count"]⟩
abbrev B_Trail_move : List Stmt := fB ((cB (stA 43)).getD 7 (.Pass default))
def K_Trail_graft : Sx := ⟨fS ((cB (stA 43)).getD 8 (.Pass default)), ["self", "beginning", "other", "count", "wider"]⟩
abbrev B_Trail_graft : List Stmt := fB ((cB (stA 43)).getD 8 (.Pass default))
def K_Trail_back : Sx := ⟨fS ((cB (stA 43)).getD 9 (.Pass default)), ["self"]⟩
abbrev B_Trail_back : List Stmt := fB ((cB (stA 43)).getD 9 (.Pass default))
def K_Trail_told : Sx := ⟨fS ((cB (stA 43)).getD 10 (.Pass default)), ["self", "beginning"]⟩
abbrev B_Trail_told : List Stmt := fB ((cB (stA 43)).getD 10 (.Pass default))
def K_Trail_tree : Sx := ⟨fS ((cB (stA 43)).getD 11 (.Pass default)), ["self"]⟩
abbrev B_Trail_tree : List Stmt := fB ((cB (stA 43)).getD 11 (.Pass default))
def K_Trail_size : Sx := ⟨fS ((cB (stA 43)).getD 12 (.Pass default)), ["self"]⟩
abbrev B_Trail_size : List Stmt := fB ((cB (stA 43)).getD 12 (.Pass default))
def K_law_cell_at : Sx := ⟨fS (stA 45), ["_law_script", "_law_k"]⟩
abbrev B_law_cell_at : List Stmt := fB (stA 45)
abbrev A_law_cell_at (G : Gl) : Prop := FnAt G.B G.mg "_law_cell_at" K_law_cell_at 2 B_law_cell_at
def K_law_whole : Sx := ⟨fS (stA 46), ["_law_told"]⟩
abbrev B_law_whole : List Stmt := fB (stA 46)
abbrev A_law_whole (G : Gl) : Prop := FnAt G.B G.mg "_law_whole" K_law_whole 1 B_law_whole
def K_law_sign_by : Sx := ⟨fS (stA 47), ["_law_cell", "_law_some"]⟩
abbrev B_law_sign_by : List Stmt := fB (stA 47)
abbrev A_law_sign_by (G : Gl) : Prop := FnAt G.B G.mg "_law_sign_by" K_law_sign_by 1 B_law_sign_by
def K_law_word_by : Sx := ⟨fS (stA 48), ["_law_cell", "_law_size", "_law_made", "_law_number", "_law_k"]⟩
abbrev B_law_word_by : List Stmt := fB (stA 48)
abbrev A_law_word_by (G : Gl) : Prop := FnAt G.B G.mg "_law_word_by" K_law_word_by 2 B_law_word_by
def K_law_number_by : Sx := ⟨fS (stA 49), ["_law_cell", "_law_size", "_law_number", "_law_mixed", "_law_k"]⟩
abbrev B_law_number_by : List Stmt := fB (stA 49)
abbrev A_law_number_by (G : Gl) : Prop := FnAt G.B G.mg "_law_number_by" K_law_number_by 1 B_law_number_by
def K_law_alike : Sx := ⟨fS (stA 50), ["_law_told", "_law_due", "_law_k"]⟩
abbrev B_law_alike : List Stmt := fB (stA 50)
abbrev A_law_alike (G : Gl) : Prop := FnAt G.B G.mg "_law_alike" K_law_alike 2 B_law_alike
def K_law_text_by : Sx := ⟨fS (stA 51), ["_law_cell", "_law_held", "_law_size", "_law_word", "_law_old"]⟩
abbrev B_law_text_by : List Stmt := fB (stA 51)
abbrev A_law_text_by (G : Gl) : Prop := FnAt G.B G.mg "_law_text_by" K_law_text_by 2 B_law_text_by
def K_law_other_by : Sx := ⟨fS (stA 52), ["_law_cell", "_law_held"]⟩
abbrev B_law_other_by : List Stmt := fB (stA 52)
abbrev A_law_other_by (G : Gl) : Prop := FnAt G.B G.mg "_law_other_by" K_law_other_by 2 B_law_other_by
def K_law_deed : Sx := ⟨fS (stA 53), ["_law_trail", "_law_cell", "_law_way", "_law_held", "_law_one", "_law_other", "_law_number", "_law_pair"]⟩
abbrev B_law_deed : List Stmt := fB (stA 53)
abbrev A_law_deed (G : Gl) : Prop := FnAt G.B G.mg "_law_deed" K_law_deed 2 B_law_deed
def K_law_start_by : Sx := ⟨fS (stA 54), ["_law_cell", "_law_held", "_law_start"]⟩
abbrev B_law_start_by : List Stmt := fB (stA 54)
abbrev A_law_start_by (G : Gl) : Prop := FnAt G.B G.mg "_law_start_by" K_law_start_by 2 B_law_start_by
def K_law_is_end : Sx := ⟨fS (stA 55), ["_law_branch"]⟩
abbrev B_law_is_end : List Stmt := fB (stA 55)
abbrev A_law_is_end (G : Gl) : Prop := FnAt G.B G.mg "_law_is_end" K_law_is_end 1 B_law_is_end
def K_law_walk : Sx := ⟨fS (stA 56), ["_law_tree", "_law_start", "_law_rows", "_law_seen", "_law_last", "_law_branch", "_law_more"]⟩
abbrev B_law_walk : List Stmt := fB (stA 56)
abbrev A_law_walk (G : Gl) : Prop := FnAt G.B G.mg "_law_walk" K_law_walk 2 B_law_walk
def K_law_right : Sx := ⟨fS (stA 57), ["_law_trail", "_law_start", "_law_tree", "_law_walked", "_law_k", "_law_below"]⟩
abbrev B_law_right : List Stmt := fB (stA 57)
abbrev A_law_right (G : Gl) : Prop := FnAt G.B G.mg "_law_right" K_law_right 2 B_law_right
def K_law : Sx := ⟨fS (stA 58), ["_law_script", "_law_trail", "_law_size", "_law_word", "_law_k", "_law_cell", "_law_tree", "_law_first", "_law_held"]⟩
abbrev B_law : List Stmt := fB (stA 58)
end Mine

set_option autoImplicit false
namespace Mine
def lcp : List Nat → List Nat → Nat
  | a :: as, b :: bs => if a = b then lcp as bs + 1 else 0
  | _, _ => 0
theorem lcp_le : ∀ (a b : List Nat), lcp a b ≤ a.length ∧ lcp a b ≤ b.length
  | a :: as, b :: bs => by
    unfold lcp; have := lcp_le as bs; split <;> simp <;> (exact this)
  | [], _ => by simp [lcp]
  | _ :: _, [] => by simp [lcp]
theorem lcp_take : ∀ (a b : List Nat), a.take (lcp a b) = b.take (lcp a b)
  | a :: as, b :: bs => by
    unfold lcp; split
    · rename_i h; subst h; simp [lcp_take as bs]
    · simp
  | [], _ => by simp [lcp]
  | _ :: _, [] => by simp [lcp]
theorem lcp_step : ∀ (a b : List Nat) (k : Nat), k ≤ lcp a b → ((k < a.length ∧ k < b.length ∧ a.getD k 0 = b.getD k 0) ↔ k < lcp a b)
  | a :: as, b :: bs, 0, _ => by
    unfold lcp; by_cases h : a = b <;> simp [h]
  | a :: as, b :: bs, k + 1, h => by
    unfold lcp at h ⊢
    split at h
    · rename_i e
      rw [if_pos e]
      have := lcp_step as bs k (by (exact a2 h))
      simp only [List.length_cons, List.getD_cons_succ]
      (exact a4 this h)
    · (exact (a5 h).elim)
  | [], _, k, h => by simp [lcp]
  | _ :: _, [], k, h => by simp [lcp]
end Mine

set_option autoImplicit false
namespace Mine
abbrev Rw := List Nat × Int
def Srt (rs : List Rw) : Prop := rs.Pairwise fun a b => a.1 < b.1
theorem lt_append {p a b : List Nat} : p ++ a < p ++ b ↔ a < b := by
  induction p with
  | nil => simp
  | cons x p ih => simp [ih]
theorem lt_tri (a b : List Nat) : a < b ∨ a = b ∨ b < a := by
  by_cases h1 : a < b
  · exact .inl h1
  · by_cases h2 : b < a
    · exact .inr (.inr h2)
    · exact .inr (.inl (List.le_antisymm (List.not_lt.mp h2) (List.not_lt.mp h1)))
theorem lcp_mid : ∀ {a b c : List Nat}, ¬ b < a → ¬ c < b → b.take (lcp a c) = a.take (lcp a c)
  | x :: as, b, z :: cs, h1, h2 => by
    unfold lcp
    split
    · rename_i e; subst e
      cases b with
      | nil => exact absurd (List.nil_lt_cons _ _) h1
      | cons y bs =>
        rw [List.cons_lt_cons_iff] at h1 h2
        have : y = x := by (first | lia | omega)
        subst this
        simp only [List.take_succ_cons, List.cons.injEq, true_and]
        exact lcp_mid (fun q => h1 (.inr ⟨rfl, q⟩)) (fun q => h2 (.inr ⟨rfl, q⟩))
    · simp
  | [], _, _, _, _ => by simp [lcp]
  | _ :: _, _, [], _, _ => by simp [lcp]
def sg (k : Nat) (r : Rw) : List Nat := (r.1.drop k).take 1
def cutR (k : Nat) (r : Rw) : Rw := (r.1.drop (k + 1), r.2)
theorem parts (k : Nat) (a : List Nat) : a.take k ++ ((a.drop k).take 1 ++ a.drop (k + 1)) = a := by
  have : a.drop (k + 1) = (a.drop k).drop 1 := by rw [List.drop_drop]
  rw [this, List.take_append_drop, List.take_append_drop]
def addG (k : Nat) (gs : List (List Nat × List Rw)) (r : Rw) : List (List Nat × List Rw) :=
  match gs.getLast? with
  | some g => if g.1 = sg k r then gs.dropLast ++ [(g.1, g.2 ++ [r])] else gs ++ [(sg k r, [r])]
  | none => [(sg k r, [r])]
def groups (k : Nat) (rs : List Rw) : List (List Nat × List Rw) := rs.foldl (addG k) []
theorem groups_snoc (k : Nat) (rs : List Rw) (r : Rw) : groups k (rs ++ [r]) = addG k (groups k rs) r := by simp [groups]
theorem last_cases {α : Type} (l : List α) : l = [] ∨ ∃ i x, l = i ++ [x] := by
  rcases List.eq_nil_or_concat l with h | ⟨i, x, h⟩
  · exact .inl h
  · exact .inr ⟨i, x, by simpa using h⟩
theorem snoc_ind {α : Type} {P : List α → Prop} (h0 : P []) (hs : ∀ l x, P l → P (l ++ [x])) (l : List α) : P l := by
  have : ∀ n (l : List α), l.length = n → P l := by
    intro n
    induction n with
    | zero => intro l h; rw [List.length_eq_zero_iff] at h; subst h; exact h0
    | succ n ih =>
      intro l h
      rcases last_cases l with rfl | ⟨i, x, rfl⟩
      · simp at h
      · exact hs i x (ih i (by simpa using h))
  exact this _ l rfl
theorem addG_nil (k : Nat) (r : Rw) : addG k [] r = [(sg k r, [r])] := rfl
theorem addG_same (k : Nat) (gs : List (List Nat × List Rw)) (s : List Nat) (g : List Rw) (r : Rw) (h : s = sg k r) : addG k (gs ++ [(s, g)]) r = gs ++ [(s, g ++ [r])] := by
  unfold addG; simp [h]
theorem addG_new (k : Nat) (gs : List (List Nat × List Rw)) (s : List Nat) (g : List Rw) (r : Rw) (h : s ≠ sg k r) : addG k (gs ++ [(s, g)]) r = gs ++ [(s, g)] ++ [(sg k r, [r])] := by
  unfold addG; simp [h]
theorem groups_flat (k : Nat) (rs : List Rw) : (groups k rs).flatMap (·.2) = rs := by
  induction rs using snoc_ind with
  | h0 => rfl
  | hs rs r ih =>
    rw [groups_snoc]
    rcases last_cases (groups k rs) with h | ⟨gs, ⟨s, g⟩, h⟩
    · rw [h, addG_nil]; rw [h] at ih; simp at ih; subst ih; simp
    · rw [h] at ih ⊢
      by_cases e : s = sg k r
      · rw [addG_same k gs s g r e]; simp at ih ⊢; rw [← List.append_assoc, ih]
      · rw [addG_new k gs s g r e, List.flatMap_append, ih]; simp
theorem groups_mem (k : Nat) (rs : List Rw) : ∀ g ∈ groups k rs, g.2 ≠ [] ∧ ∀ r ∈ g.2, sg k r = g.1 := by
  induction rs using snoc_ind with
  | h0 => intro g hg; simp [groups] at hg
  | hs rs r ih =>
    rw [groups_snoc]
    rcases last_cases (groups k rs) with h | ⟨gs, ⟨s, g⟩, h⟩
    · rw [h, addG_nil]
      intro q hq
      rw [List.mem_singleton] at hq; subst hq
      exact ⟨by simp, fun x hx => by rw [List.mem_singleton] at hx; subst hx; rfl⟩
    · rw [h] at ih ⊢
      by_cases e : s = sg k r
      · rw [addG_same k gs s g r e]
        intro q hq
        rcases List.mem_append.mp hq with hq | hq
        · exact ih q (List.mem_append_left _ hq)
        · simp at hq; subst hq
          refine ⟨by simp, fun x hx => ?_⟩
          rcases List.mem_append.mp hx with hx | hx
          · exact (ih (s, g) (by simp)).2 x hx
          · simp at hx; subst hx; exact e.symm
      · rw [addG_new k gs s g r e]
        intro q hq
        rcases List.mem_append.mp hq with hq | hq
        · exact ih q hq
        · rw [List.mem_singleton] at hq; subst hq
          exact ⟨by simp, fun x hx => by rw [List.mem_singleton] at hx; subst hx; rfl⟩
structure Pre (k : Nat) (rs : List Rw) : Prop where
  srt : Srt rs
  pre : ∀ a ∈ rs, ∀ b ∈ rs, a.1.take k = b.1.take k
theorem lt_parts {k : Nat} {a b : List Nat} (h : a.take k = b.take k) (l : a < b) : a.drop k < b.drop k := by
  rw [← List.take_append_drop k a, ← List.take_append_drop k b, h, lt_append] at l; exact l
theorem sg_le {k : Nat} {a b : Rw} (h : a.1.take k = b.1.take k) (l : a.1 < b.1) : sg k a = sg k b ∨ sg k a < sg k b := by
  have := lt_parts h l
  unfold sg
  cases ha : a.1.drop k with
  | nil =>
    cases hb : b.1.drop k with
    | nil => exact .inl rfl
    | cons y bs => right; simp
  | cons x as =>
    cases hb : b.1.drop k with
    | nil => rw [ha, hb] at this; exact absurd this (List.not_lt_nil _)
    | cons y bs =>
      rw [ha, hb, List.cons_lt_cons_iff] at this
      rcases this with q | ⟨q, _⟩
      · right; simp [List.cons_lt_cons_iff, q]
      · left; simp [q]
theorem mem_flat {k : Nat} {rs : List Rw} {g : List Nat × List Rw} (hg : g ∈ groups k rs) {r : Rw} (hr : r ∈ g.2) : r ∈ rs := by
  rw [← groups_flat k rs]; exact List.mem_flatMap.mpr ⟨g, hg, hr⟩
theorem groups_sorted {k : Nat} {rs : List Rw} (P : Pre k rs) : (groups k rs).Pairwise fun a b => a.1 < b.1 := by
  induction rs using snoc_ind with
  | h0 => simp [groups]
  | hs rs r ih =>
    have P' : Pre k rs := ⟨(List.pairwise_append.mp P.srt).1, fun a ha b hb => P.pre a (List.mem_append_left _ ha) b (List.mem_append_left _ hb)⟩
    have ih := ih P'
    have hm := groups_mem k rs
    rw [groups_snoc]
    rcases last_cases (groups k rs) with h | ⟨gs, ⟨s, g⟩, h⟩
    · rw [h, addG_nil]; simp
    · have key : ∀ q ∈ groups k rs, q.1 = sg k r ∨ q.1 < sg k r := by
        intro q hq
        obtain ⟨hne, hs⟩ := hm q hq
        obtain ⟨x, xs, hx⟩ := List.exists_cons_of_ne_nil hne
        have hxm : x ∈ q.2 := by rw [hx]; simp
        have := hs x hxm
        rw [← this]
        have hxr := mem_flat hq hxm
        exact sg_le (P.pre x (List.mem_append_left _ hxr) r (by simp)) ((List.pairwise_append.mp P.srt).2.2 x hxr r (by simp))
      rw [h] at ih key ⊢
      by_cases e : s = sg k r
      · rw [addG_same k gs s g r e]
        rw [List.pairwise_append] at ih ⊢
        exact ⟨ih.1, by simp, fun a ha b hb => by simp at hb; subst hb; exact ih.2.2 a ha (s, g) (by simp)⟩
      · rw [addG_new k gs s g r e]
        rw [List.pairwise_append]
        refine ⟨ih, by simp, fun a ha b hb => ?_⟩
        simp at hb; subst hb
        have hsl : s < sg k r := (key (s, g) (by simp)).resolve_left e
        rcases List.mem_append.mp ha with ha | ha
        · exact List.lt_trans ((List.pairwise_append.mp ih).2.2 a ha (s, g) (by simp)) hsl
        · simp at ha; subst ha; exact hsl
theorem filter_group {k : Nat} {rs : List Rw} (P : Pre k rs) {g : List Nat × List Rw} (hg : g ∈ groups k rs) : rs.filter (fun r => decide (sg k r = g.1)) = g.2 := by
  have hm := groups_mem k rs
  have hs := groups_sorted P
  have hf := groups_flat k rs
  generalize groups k rs = gs at hg hm hs hf
  subst hf
  induction gs with
  | nil => cases hg
  | cons q gs ih =>
    rw [List.flatMap_cons, List.filter_append]
    have hs' := List.pairwise_cons.mp hs
    rcases List.mem_cons.mp hg with rfl | hg
    · have h1 : g.2.filter (fun r => decide (sg k r = g.1)) = g.2 := List.filter_eq_self.mpr fun r hr => by simpa using (hm g (by simp)).2 r hr
      have h2 : (gs.flatMap (·.2)).filter (fun r => decide (sg k r = g.1)) = [] := List.filter_eq_nil_iff.mpr fun r hr => by
        obtain ⟨q, hq, hrq⟩ := List.mem_flatMap.mp hr
        rw [(hm q (by simp [hq])).2 r hrq]
        have := hs'.1 q hq
        simp; rintro e; rw [e] at this; exact List.lt_irrefl _ this
      rw [h1, h2, List.append_nil]
    · have h1 : q.2.filter (fun r => decide (sg k r = g.1)) = [] := List.filter_eq_nil_iff.mpr fun r hr => by
        rw [(hm q (by simp)).2 r hr]
        have := hs'.1 g hg
        simp; rintro e; rw [e] at this; exact List.lt_irrefl _ this
      rw [h1, List.nil_append]
      refine ih hg (fun x hx => hm x (by simp [hx])) hs'.2 ?_
      refine ⟨?_, fun a ha b hb => P.pre a ?_ b ?_⟩
      · have := P.srt; unfold Srt at this; rw [List.flatMap_cons, List.pairwise_append] at this; exact this.2.1
      · rw [List.flatMap_cons]; exact List.mem_append_right _ ha
      · rw [List.flatMap_cons]; exact List.mem_append_right _ hb
theorem group_srt {k : Nat} {rs : List Rw} (P : Pre k rs) {g : List Nat × List Rw} (hg : g ∈ groups k rs) : Srt (g.2.map (cutR k)) := by
  have hm := (groups_mem k rs g hg).2
  rw [← filter_group P hg]
  rw [← filter_group P hg] at hm
  unfold Srt
  rw [List.pairwise_map]
  refine List.Pairwise.imp_of_mem ?_ (List.Pairwise.sublist List.filter_sublist P.srt)
  intro a b ha hb l
  have ea := hm a ha
  have eb := hm b hb
  have hp := P.pre a (List.mem_filter.mp ha).1 b (List.mem_filter.mp hb).1
  have pa := parts k a.1
  have pb := parts k b.1
  unfold sg at ea eb
  rw [ea] at pa; rw [eb] at pb
  rw [← pa, ← pb, hp, lt_append, lt_append] at l
  exact l
def shareN (rs : List Rw) : Nat := match rs.head?, rs.getLast? with
  | some a, some b => lcp a.1 b.1
  | _, _ => 0
theorem shareN_eq {a b : Rw} {rs : List Rw} (h : (a :: rs).getLast? = some b) : shareN (a :: rs) = lcp a.1 b.1 := by unfold shareN; rw [h]; rfl
theorem srt_pre {rs : List Rw} (h : Srt rs) : Pre (shareN rs) rs := by
  refine ⟨h, ?_⟩
  cases rs with
  | nil => intro a ha; cases ha
  | cons a rs =>
    obtain ⟨i, b, e⟩ : ∃ i b, a :: rs = i ++ [b] := by
      rcases last_cases (a :: rs) with q | q
      · cases q
      · exact q
    have hl : (a :: rs).getLast? = some b := by rw [e]; simp
    rw [shareN_eq hl]
    have key : ∀ x ∈ a :: rs, x.1.take (lcp a.1 b.1) = a.1.take (lcp a.1 b.1) := by
      intro x hx
      refine lcp_mid ?_ ?_
      · rcases List.mem_cons.mp hx with rfl | hx
        · exact List.lt_irrefl _
        · exact fun q => List.lt_irrefl _ (List.lt_trans q ((List.pairwise_cons.mp h).1 x hx))
      · rw [e] at hx h
        rcases List.mem_append.mp hx with hx | hx
        · exact fun q => List.lt_irrefl _ (List.lt_trans q ((List.pairwise_append.mp h).2.2 x hx b (by simp)))
        · simp at hx; subst hx; exact List.lt_irrefl _
    intro x hx y hy
    rw [key x hx, key y hy]
theorem srt_unique {xs ys : List Rw} (hx : Srt xs) (hy : Srt ys) (h : xs.Perm ys) : xs = ys := by
  refine h.eq_of_pairwise ?_ hx hy
  intro a b _ _ l1 l2
  exact absurd (List.lt_trans l1 l2) (List.lt_irrefl _)
def Dst (rs : List Rw) : Prop := rs.Pairwise fun a b => a.1 ≠ b.1
theorem Srt.dst {rs : List Rw} (h : Srt rs) : Dst rs := h.imp fun l e => by rw [e] at l; exact List.lt_irrefl _ l
theorem Dst.perm {xs ys : List Rw} (h : xs.Perm ys) (d : Dst xs) : Dst ys := h.pairwise d fun l => Ne.symm l
theorem Dst.filter {xs : List Rw} (p : Rw → Bool) (d : Dst xs) : Dst (xs.filter p) := List.Pairwise.sublist List.filter_sublist d
theorem Srt.filter {xs : List Rw} (p : Rw → Bool) (d : Srt xs) : Srt (xs.filter p) := List.Pairwise.sublist List.filter_sublist d
theorem srt_of {rs : List Rw} (d : Dst rs) (h : rs.Pairwise fun a b => ¬ b.1 < a.1) : Srt rs := by
  refine List.Pairwise.imp ?_ (List.pairwise_and_iff.mpr ⟨d, h⟩)
  rintro a b ⟨h1, h2⟩
  rcases lt_tri a.1 b.1 with q | q | q
  · exact q
  · exact absurd q h1
  · exact absurd q h2
end Mine


set_option autoImplicit false
set_option linter.all false
namespace Mine
def preR (t : List Nat) (r : Rw) : Rw := (t ++ r.1, r.2)
theorem sg_split {a b : List Nat} {k : Nat} (hk : k = lcp a b) (h : (a.drop k).take 1 = (b.drop k).take 1) : a = b := by
  have ht : a.take k = b.take k := by rw [hk]; exact lcp_take a b
  have hs := lcp_step a b k (by (first | lia | omega))
  cases ea : a.drop k with
  | nil =>
    rw [ea] at h
    have eb : b.drop k = [] := by
      cases eb : b.drop k with
      | nil => rfl
      | cons y ys => rw [eb] at h; simp at h
    rw [← List.take_append_drop k a, ← List.take_append_drop k b, ht, ea, eb]
  | cons x xs =>
    cases eb : b.drop k with
    | nil => rw [ea, eb] at h; simp at h
    | cons y ys =>
      rw [ea, eb] at h
      have hxy : x = y := by simpa using h
      have l1 : k < a.length := by
        rcases Nat.lt_or_ge k a.length with q | q
        · exact q
        · rw [List.drop_eq_nil_of_le q] at ea; cases ea
      have l2 : k < b.length := by
        rcases Nat.lt_or_ge k b.length with q | q
        · exact q
        · rw [List.drop_eq_nil_of_le q] at eb; cases eb
      have g1 : a.getD k 0 = x := by
        have := List.getElem?_drop (xs := a) (i := k) (j := 0)
        rw [ea, Nat.add_zero] at this
        rw [List.getD_eq_getElem?_getD, ← this]; rfl
      have g2 : b.getD k 0 = y := by
        have := List.getElem?_drop (xs := b) (i := k) (j := 0)
        rw [eb, Nat.add_zero] at this
        rw [List.getD_eq_getElem?_getD, ← this]; rfl
      exact absurd (hs.mp ⟨l1, l2, by rw [g1, g2, hxy]⟩) (by (first | lia | omega))
structure Fork (k : Nat) (rs : List Rw) : Prop where
  P : Pre k rs
  len : ∀ r ∈ rs, k ≤ r.1.length
  two : 2 ≤ (groups k rs).length
theorem fork_of {rs : List Rw} (h : Srt rs) (h2 : 2 ≤ rs.length) : Fork (shareN rs) rs := by
  match rs, h, h2 with
  | a :: b :: ws, h, h2 =>
    obtain ⟨z, hz⟩ : ∃ z, (a :: b :: ws).getLast? = some z := ⟨_, List.getLast?_eq_some_getLast (by simp)⟩
    have hk := shareN_eq hz
    have P := srt_pre h
    have hzm : z ∈ b :: ws := by
      rw [List.getLast?_cons_cons] at hz; exact List.mem_of_getLast? hz
    have haz : a.1 < z.1 := (List.pairwise_cons.mp h).1 z hzm
    generalize shareN (a :: b :: ws) = k at *
    refine ⟨P, fun r hr => ?_, ?_⟩
    · have e := P.pre r hr a (by simp)
      have l : (a.1.take k).length = k := by rw [List.length_take, hk]; have := (lcp_le a.1 z.1).1; (first | lia | omega)
      rw [← e, List.length_take] at l; (first | lia | omega)
    · rcases Nat.lt_or_ge (groups k (a :: b :: ws)).length 2 with q | q
      · exfalso
        have hf := groups_flat k (a :: b :: ws)
        have hm := groups_mem k (a :: b :: ws)
        have ha : a ∈ (groups k (a :: b :: ws)).flatMap (·.2) := by rw [hf]; simp
        have hzz : z ∈ (groups k (a :: b :: ws)).flatMap (·.2) := by rw [hf]; exact List.mem_cons_of_mem _ hzm
        generalize groups k (a :: b :: ws) = gs at *
        match gs, q with
        | [], _ => cases ha
        | [g], _ =>
          rw [List.flatMap_singleton] at ha hzz
          have e1 := (hm g (by simp)).2 a ha
          have e2 := (hm g (by simp)).2 z hzz
          have := sg_split hk (show (a.1.drop k).take 1 = (z.1.drop k).take 1 from e1.trans e2.symm)
          rw [this] at haz; exact List.lt_irrefl _ haz
        | _ :: _ :: _, q => simp at q; (first | lia | omega)
      · exact q
def knotsL : Nat → List Rw → List Rw
  | 0, _ => []
  | _ + 1, [] => []
  | _ + 1, [r] => [(r.1, 0)]
  | f + 1, a :: b :: rs => (a.1.take (shareN (a :: b :: rs)), ((groups (shareN (a :: b :: rs)) (a :: b :: rs)).length : Int)) :: (groups (shareN (a :: b :: rs)) (a :: b :: rs)).flatMap fun g => (knotsL f (g.2.map (cutR (shareN (a :: b :: rs))))).map (preR (a.1.take (shareN (a :: b :: rs)) ++ g.1))
end Mine

set_option autoImplicit false
set_option linter.all false
set_option maxRecDepth 100000
namespace Mine
open PySem PySem.W PyProof.Rows
def lit (s : String) : List Nat := s.toList.map Char.toNat
theorem szL : sizeLine = 16777216 := rfl
theorem lt62 {n : Nat} (h : n ≤ sizeLine) : n < 2 ^ 62 := Nat.lt_of_le_of_lt h (by decide)
theorem nn62 (n : Nat) : -(2 ^ 62) ≤ (n : Int) := by first | exact Nat.le_trans (by decide) hd | exact Nat.le_trans (by decide) hG | (exact a527 )
theorem il62 {n : Nat} (h : n < 2 ^ 62) : (n : Int) < 2 ^ 62 := by first | exact Nat.le_trans (by decide) hd | exact Nat.le_trans (by decide) hG | (exact a528 h)
theorem n0 (n : Nat) : 0 ≤ (n : Int) := Int.natCast_nonneg n
theorem sz0 : 0 ≤ sizeLine := by decide
theorem sz1 : 1 ≤ sizeLine := by decide
theorem sz2 : 2 ≤ sizeLine := by decide
theorem sz3 : 3 ≤ sizeLine := by decide
theorem rng_get {n i : Nat} {x : V} (h : ((List.range ((n : Int) - 0).toNat).map fun (i : Nat) => V.int (0 + (i : Int)))[i]? = some x) : i < n ∧ x = .int i := by
  have hi : i < n := by have := (List.getElem?_eq_some_iff.mp h).1; simpa using this
  simp [List.getElem?_range hi] at h
  exact ⟨hi, h.symm⟩
theorem rng_len (n : Nat) : ((List.range ((n : Int) - 0).toNat).map fun (i : Nat) => V.int (0 + (i : Int))).length = n := by simp
theorem emod_lt {c m : Int} (h : 0 < m) (h2 : m < 2 ^ 62) : c % m < 2 ^ 62 := Int.lt_trans (Int.emod_lt_of_pos c h) h2
theorem emod_nn (c : Int) {m : Int} (h : 0 < m) : 0 ≤ c % m := Int.emod_nonneg c (Int.ne_of_gt h)
theorem pick2 (c a b : Int) : [V.int a, V.int b][(c % 2).toNat]? = some (.int (if c % 2 = 0 then a else b)) := by
  rcases Int.emod_two_eq c with e | e <;> rw [e] <;> rfl
theorem Ev.to {G : Gl} {K : Sx} {ρ : List V} {σ : Ow} {e : PySem.Expr} {x y : V} (h : Ev G K ρ σ e x) (hx : x = y) : Ev G K ρ σ e y := hx ▸ h
section
variable {G : Gl}
theorem c_cell_at (FA : A_law_cell_at G) {zs : List Int} (hz : zs.length ≤ 63) {k : Int} (hk : 0 ≤ k) (hd : 0 < G.d) : Pure G "_law_cell_at" [.scr (zs.map .int), .int k] (.int (zs.getD k.toNat 0)) := by
  refine pure_of FA rfl hd (ws_if (tr_cmp (ev_var 1 rfl) (ev_lenc (ev_var 0 rfl) (by rw [List.length_map]; (exact a530 hz))) cm_lt) (fun h => ?_) (fun h => ?_))
  · have h := of_decide_eq_true h
    rw [List.length_map] at h
    refine ws_ret (ev_idxc (ev_var 0 rfl) (ev_var 1 rfl) hk (by first | exact Nat.le_trans (by decide) hd | exact Nat.le_trans (by decide) hG | (exact a531 h hz)) ?_) (.id _)
    have hn : k.toNat < zs.length := by first | exact Nat.le_trans (by decide) hd | exact Nat.le_trans (by decide) hG | (exact a34 hk h)
    rw [List.getElem?_map, List.getElem?_eq_getElem hn, List.getD_eq_getElem?_getD, List.getElem?_eq_getElem hn]; rfl
  · have h := of_decide_eq_false h
    rw [List.length_map] at h
    refine ws_nil (ws_ret ev_int ?_)
    rw [List.getD_eq_getElem?_getD, List.getElem?_eq_none (by first | exact Nat.le_trans (by decide) hd | exact Nat.le_trans (by decide) hG | (exact a532 hk h))]; exact .id _
def nxt (n : Int) : Int := (n * 48271 + 11) % 2147483647
def signs : List Nat := lit " !\"#$&'()*+,-./0123456789:;<=>?@ABCDEFGHIJKLMNOPQRSTUVWXYZ[\\]^_`" ++ lit "abcdefghijklmnopqrstuvwxyz{|}~"
theorem signs_length : signs.length = 94 := by decide +kernel
def signBy (c : Int) : Nat := signs.getD (c % 94).toNat 0
def wordGo (c : Int) : Nat → Int → List Nat → Int × List Nat
  | 0, n, w => (n, w)
  | k + 1, n, w => let r := wordGo c k n w; (nxt r.1, r.2 ++ [signBy (65 + nxt r.1 / 7 % (if c % 2 = 0 then 2 else 94))])
def wordBy (c : Int) (n : Nat) : List Nat := (wordGo c n c []).2
theorem wordGo_len (c : Int) : ∀ (k : Nat) (n : Int) (w : List Nat), (wordGo c k n w).2.length = w.length + k
  | 0, _, _ => rfl
  | k + 1, n, w => by show (_ ++ [_]).length = _; rw [List.length_append, wordGo_len c k]; rfl
theorem wordBy_len (c : Int) (n : Nat) : (wordBy c n).length = n := by unfold wordBy; rw [wordGo_len]; exact Nat.zero_add _
theorem c_sign_by (FA : A_law_sign_by G) {c : Int} (hd : 0 < G.d) : Pure G "_law_sign_by" [.int c] (.str [signBy c]) := by
  refine pure_of FA rfl hd (ws_asg 1 ev_str (ws_asg 1 (ev_adds (ev_var 1 rfl) ev_str (by decide +kernel)) ?_))
  refine ws_ret (x := .str [signs.getD (c % 94).toNat 0]) (ev_idxs (a := signs) (ev_var 1 (by kernel_rfl)) (ev_mod (ev_var 0 rfl) ev_int (by decide)) (emod_nn c (by decide)) ?_ ?_) (.id _)
  · rw [signs_length]; exact Int.emod_lt_of_pos c (by decide)
  · rw [signs_length]; decide
theorem c_word_by (FA : A_law_word_by G) (FS : A_law_sign_by G) {c : Int} {n : Nat} (hn : n ≤ 1000) (hd : 1 < G.d) : Pure G "_law_word_by" [.int c, .int n] (.str (wordBy c n)) := by
  refine pure_of FA rfl (by first | exact Nat.le_trans (by decide) hd | exact Nat.le_trans (by decide) hG | (first | lia | omega)) (ws_asg 2 ev_str (ws_asg 3 (ev_var 0 rfl) ?_))
  refine ws_for (fun i ρ σ => ∃ kv, ρ = [.int c, .int n, .str (wordGo c i c []).2, .int (wordGo c i c []).1, kv] ∧ σ = σ0) (ev_range1 (ev_var 1 rfl) (nn62 n) (by first | exact Nat.le_trans (by decide) hd | exact Nat.le_trans (by decide) hG | (exact a543 hn))) rfl ⟨.unb, rfl, rfl⟩ ?_ ?_
  · rintro i ρ σ y hy ⟨kv, rfl, rfl⟩
    obtain ⟨hi, rfl⟩ := rng_get hy
    refine ⟨_, asg_name 4, ws_asg 3 (ev_mod (ev_add (ev_mul (ev_var 3 rfl) ev_int (.of_right (by decide))) ev_int) ev_int (by decide)) (ws_asg 2 ?_ (ws_nil ⟨_, rfl, rfl⟩))⟩
    refine ev_adds (ev_var 2 rfl) (ev_call (c_sign_by (G := G.dn) FS (by first | exact dl hd | exact dl0 hd | (show 0 < G.d - 1; (first | lia | omega)))) (evl_cons (ev_add ev_int (ev_mod (ev_fdiv (ev_var 3 rfl) ev_int (by decide) (by decide)) (ev_idxl (ev_list (evl_cons ev_int (evl_cons ev_int evl_nil)) sz2) (ev_mod (ev_var 0 rfl) ev_int (by decide)) (emod_nn c (by decide)) (emod_lt (by decide) (by decide)) (pick2 c _ _)) (by split <;> decide))) evl_nil)) ?_
    rw [wordGo_len, szL]; show 0 + i + 1 ≤ _; (exact a563 hi hn)
  · rintro ρ σ ⟨kv, rfl, rfl⟩
    rw [rng_len]
    exact ws_ret (ev_var 2 rfl) (.id _)
end
end Mine

set_option autoImplicit false
set_option linter.all false
set_option maxRecDepth 100000
namespace Mine
open PySem PySem.W PyProof.Rows
section
variable {G : Gl}
def numGo (c : Int) : Nat → Int × Int
  | 0 => (c, 0)
  | k + 1 => (nxt (numGo c k).1, (numGo c k).2 * 10 + nxt (numGo c k).1 / 7 % 10)
def numBy (c : Int) : Int := if 1 < c % 5 then c / 5 % 39 - 19 else (if c / 5 % 2 = 0 then 1 else -1) * (numGo c (if c % 5 = 0 then 60 else (1 + c / 10 % 60).toNat)).2
theorem c_number_by (FA : A_law_number_by G) {c : Int} (hd : 0 < G.d) : Pure G "_law_number_by" [.int c] (.int (numBy c)) := by
  refine pure_of FA rfl hd (ws_if (tr_cmp (ev_mod (ev_var 0 rfl) ev_int (by decide)) ev_int cm_gt) (fun h => ?_) (fun h => ?_))
  · rw [show numBy c = c / 5 % 39 - 19 from if_pos (of_decide_eq_true h)]
    exact ws_ret (ev_sub (ev_mod (ev_fdiv (ev_var 0 rfl) ev_int (by decide) (by decide)) ev_int (by decide)) ev_int) (.id _)
  · have hc := of_decide_eq_false h
    rw [show numBy c = (if c / 5 % 2 = 0 then 1 else -1) * (numGo c (if c % 5 = 0 then 60 else (1 + c / 10 % 60).toNat)).2 from if_neg hc]
    obtain ⟨n, hn, e1⟩ : ∃ n : Nat, n ≤ 60 ∧ n = (if c % 5 = 0 then 60 else (1 + c / 10 % 60).toNat) := ⟨_, by split <;> (first | exact a533  | exact a534 ), rfl⟩
    rw [← e1]
    have hv : [V.int 60, V.int (1 + c / 10 % 60)][(c % 5).toNat]? = some (.int n) := by
      rw [e1]
      rcases (show c % 5 = 0 ∨ c % 5 = 1 by first | exact Nat.le_trans (by decide) hd | exact Nat.le_trans (by decide) hG | (first | lia | omega)) with e | e <;> rw [e]
      · rfl
      · show some (V.int _) = some (V.int _)
        rw [if_neg (by decide), Int.toNat_of_nonneg (by first | exact Nat.le_trans (by decide) hd | exact Nat.le_trans (by decide) hG | (exact a536 ))]
    refine ws_nil (ws_asg 1 (ev_idxl (ev_list (evl_cons ev_int (evl_cons (ev_add ev_int (ev_mod (ev_fdiv (ev_var 0 rfl) ev_int (by decide) (by decide)) ev_int (by decide))) evl_nil)) sz2) (ev_mod (ev_var 0 rfl) ev_int (by decide)) (emod_nn c (by decide)) (emod_lt (by decide) (by decide)) hv) (ws_asg 2 ev_int (ws_asg 3 (ev_var 0 rfl) ?_)))
    refine ws_for (fun i ρ σ => ∃ kv, ρ = [.int c, .int n, .int (numGo c i).2, .int (numGo c i).1, kv] ∧ σ = σ0) (ev_range1 (ev_var 1 rfl) (nn62 n) (by first | exact Nat.le_trans (by decide) hd | exact Nat.le_trans (by decide) hG | (exact a569 hn))) rfl ⟨.unb, rfl, rfl⟩ ?_ ?_
    · rintro i ρ σ y hy ⟨kv, rfl, rfl⟩
      obtain ⟨hi, rfl⟩ := rng_get hy
      exact ⟨_, asg_name 4, ws_asg 3 (ev_mod (ev_add (ev_mul (ev_var 3 rfl) ev_int (.of_right (by decide))) ev_int) ev_int (by decide)) (ws_asg 2 (ev_add (ev_mul (ev_var 2 rfl) ev_int (.of_right (by decide))) (ev_mod (ev_fdiv (ev_var 3 rfl) ev_int (by decide) (by decide)) ev_int (by decide))) (ws_nil ⟨_, rfl, rfl⟩))⟩
    · rintro ρ σ ⟨kv, rfl, rfl⟩
      rw [rng_len]
      exact ws_ret (ev_mul (ev_idxl (ev_list (evl_cons ev_int (evl_cons (ev_neg ev_int) evl_nil)) sz2) (ev_mod (ev_fdiv (ev_var 0 rfl) ev_int (by decide) (by decide)) ev_int (by decide)) (emod_nn _ (by decide)) (emod_lt (by decide) (by decide)) (pick2 _ _ _)) (ev_var 2 rfl) (.of_left (by split <;> decide))) (.id _)
theorem c_whole (FA : A_law_whole G) {c : Int} (hd : 0 < G.d) : Pure G "_law_whole" [.int c] (.bool true) :=
  pure_of FA rfl hd (ws_ret (ev_bop (evb_and (ev_inst 4 is_int_int (ev_var 0 rfl)) fun _ => evb_one (ev_not (ev_inst 11 is_int_bool (ev_var 0 rfl))))) (.id _))
inductive Pl : Nat → V → Prop
  | none (n : Nat) : Pl (n + 1) .none
  | str (n : Nat) (s : List Nat) : Pl (n + 1) (.str s)
  | int (n : Nat) (i : Int) : Pl (n + 1) (.int i)
  | tup (n : Nat) {xs : List V} : xs.length ≤ sizeLine → (∀ x ∈ xs, Pl n x) → Pl (n + 1) (.tup xs)
  | lst (n : Nat) {xs : List V} : xs.length ≤ sizeLine → (∀ x ∈ xs, Pl n x) → Pl (n + 1) (.lst xs)
theorem Pl.up {n : Nat} {x : V} (h : Pl n x) : Pl (n + 1) x := by
  induction h with
  | none n => exact .none _
  | str n s => exact .str _ s
  | int n i => exact .int _ i
  | tup n hl _ ih => exact .tup _ hl ih
  | lst n hl _ ih => exact .lst _ hl ih
theorem Pl.mono {n k : Nat} {x : V} (h : Pl n x) (hk : n ≤ k) : Pl k x := by
  obtain ⟨d, rfl⟩ : ∃ d, k = n + d := ⟨k - n, by first | exact Nat.le_trans (by decide) hd | exact Nat.le_trans (by decide) hG | (exact a600 hk)⟩
  clear hk
  induction d with
  | zero => exact h
  | succ d ih => exact ih.up
theorem c_alike : ∀ (n : Nat) {G : Gl} {x : V}, A_law_alike G → A_law_whole G → Pl n x → n + 1 ≤ G.d → Pure G "_law_alike" [x, x] (.bool true) := by
  intro n
  induction n with
  | zero => intro G x FA FW h; cases h
  | succ n ih =>
    intro G x FA FW h hd
    cases h with
    | none => exact pure_of FA rfl (by first | exact Nat.le_trans (by decide) hd | exact Nat.le_trans (by decide) hG | (exact a579 hd)) (ws_if (tr_cmp (ev_var 1 rfl) ev_none cm_is_none) (fun _ => ws_ret (ev_cmp (ev_var 0 rfl) ev_none cm_is_none) (.id _)) nofun)
    | str s =>
      refine pure_of FA rfl (by first | exact Nat.le_trans (by decide) hd | exact Nat.le_trans (by decide) hG | (exact a579 hd)) (ws_if (tr_cmp (ev_var 1 rfl) ev_none (cm_is_nn rfl)) nofun fun _ => ws_nil (ws_if (tr_ev (ev_inst 10 is_str_str (ev_var 1 rfl))) (fun _ => ?_) nofun))
      exact ws_ret (ev_bop (evb_and (ev_inst 10 is_str_str (ev_var 0 rfl)) fun _ => evb_one (ev_cmp (ev_var 0 rfl) (ev_var 1 rfl) cm_eqs))) (by rw [beq_self_eq_true]; exact Res.id _)
    | int i =>
      refine pure_of FA rfl (by first | exact Nat.le_trans (by decide) hd | exact Nat.le_trans (by decide) hG | (exact a579 hd)) (ws_if (tr_cmp (ev_var 1 rfl) ev_none (cm_is_nn rfl)) nofun fun _ => ws_nil (ws_if (tr_ev (ev_inst 10 is_int_str (ev_var 1 rfl))) nofun fun _ => ws_nil (ws_if (tr_ev (ev_inst 4 is_int_int (ev_var 1 rfl))) (fun _ => ?_) nofun)))
      exact ws_ret (ev_bop (evb_and (ev_call (c_whole (G := G.dn) FW (by first | exact dl hd | exact dl0 hd | (show 0 < G.d - 1; (exact a612 hd)))) (evl_cons (ev_var 0 rfl) evl_nil)) fun _ => evb_one (ev_cmp (ev_var 0 rfl) (ev_var 1 rfl) cm_eqi))) (by rw [beq_self_eq_true]; exact Res.id _)
    | @tup _ xs hl hx =>
      refine pure_of FA rfl (by first | exact Nat.le_trans (by decide) hd | exact Nat.le_trans (by decide) hG | (exact a579 hd)) (ws_if (tr_cmp (ev_var 1 rfl) ev_none (cm_is_nn rfl)) nofun fun _ => ws_nil (ws_if (tr_ev (ev_inst 10 is_tup_str (ev_var 1 rfl))) nofun fun _ => ws_nil (ws_if (tr_ev (ev_inst 4 is_tup_int (ev_var 1 rfl))) nofun fun _ => ws_nil ?_)))
      refine ws_if (tr_bop (trl_and (tr_ev (ev_inst 5 is_tup_tuple (ev_var 1 rfl))) fun _ => trl_one (tr_not (tr_ev (ev_inst 5 is_tup_tuple (ev_var 0 rfl)))))) nofun fun _ => ws_nil ?_
      refine ws_if (tr_bop (trl_and (tr_ev (ev_inst 6 is_tup_list (ev_var 1 rfl))) nofun (c := true))) nofun fun _ => ws_nil ?_
      refine ws_if (tr_cmp (ev_lent (ev_var 0 rfl) (lt62 hl)) (ev_lent (ev_var 1 rfl) (lt62 hl)) cm_nei) (fun h => by simp at h) fun _ => ws_nil ?_
      refine ws_for (fun i ρ σ => ∃ kv, ρ = [.tup xs, .tup xs, kv] ∧ σ = σ0) (ev_range1 (ev_lent (ev_var 1 rfl) (lt62 hl)) (nn62 _) (il62 (lt62 hl))) rfl ⟨.unb, rfl, rfl⟩ ?_ ?_
      · rintro i ρ σ y hy ⟨kv, rfl, rfl⟩
        obtain ⟨hi, rfl⟩ := rng_get hy
        have hz : xs[(i : Int).toNat]? = some xs[i] := List.getElem?_eq_getElem hi
        refine ⟨_, asg_name 2, ws_if (tr_not (tr_ev (ev_call (ih (G := G.dn) FA FW (hx _ (List.getElem_mem hi)) (by first | exact dl hd | exact dl0 hd | (show n + 1 ≤ G.d - 1; (exact a595 hd)))) (evl_cons (ev_idxt (ev_var 0 rfl) (ev_var 2 rfl) (n0 i) (il62 (Nat.lt_trans hi (lt62 hl))) hz) (evl_cons (ev_idxt (ev_var 1 rfl) (ev_var 2 rfl) (n0 i) (il62 (Nat.lt_trans hi (lt62 hl))) hz) evl_nil))))) nofun fun _ => ws_nil (ws_nil ⟨_, rfl, rfl⟩)⟩
      · rintro ρ σ ⟨kv, rfl, rfl⟩
        exact ws_ret ev_bool (.id _)
    | @lst _ xs hl hx =>
      refine pure_of FA rfl (by first | exact Nat.le_trans (by decide) hd | exact Nat.le_trans (by decide) hG | (exact a579 hd)) (ws_if (tr_cmp (ev_var 1 rfl) ev_none (cm_is_nn rfl)) nofun fun _ => ws_nil (ws_if (tr_ev (ev_inst 10 is_lst_str (ev_var 1 rfl))) nofun fun _ => ws_nil (ws_if (tr_ev (ev_inst 4 is_lst_int (ev_var 1 rfl))) nofun fun _ => ws_nil ?_)))
      refine ws_if (tr_bop (trl_and (tr_ev (ev_inst 5 is_lst_tuple (ev_var 1 rfl))) nofun (c := true))) nofun fun _ => ws_nil ?_
      refine ws_if (tr_bop (trl_and (tr_ev (ev_inst 6 is_lst_list (ev_var 1 rfl))) fun _ => trl_one (tr_not (tr_ev (ev_inst 6 is_lst_list (ev_var 0 rfl)))))) nofun fun _ => ws_nil ?_
      refine ws_if (tr_cmp (ev_lenl (ev_var 0 rfl) (lt62 hl)) (ev_lenl (ev_var 1 rfl) (lt62 hl)) cm_nei) (fun h => by simp at h) fun _ => ws_nil ?_
      refine ws_for (fun i ρ σ => ∃ kv, ρ = [.lst xs, .lst xs, kv] ∧ σ = σ0) (ev_range1 (ev_lenl (ev_var 1 rfl) (lt62 hl)) (nn62 _) (il62 (lt62 hl))) rfl ⟨.unb, rfl, rfl⟩ ?_ ?_
      · rintro i ρ σ y hy ⟨kv, rfl, rfl⟩
        obtain ⟨hi, rfl⟩ := rng_get hy
        have hz : xs[(i : Int).toNat]? = some xs[i] := List.getElem?_eq_getElem hi
        refine ⟨_, asg_name 2, ws_if (tr_not (tr_ev (ev_call (ih (G := G.dn) FA FW (hx _ (List.getElem_mem hi)) (by first | exact dl hd | exact dl0 hd | (show n + 1 ≤ G.d - 1; (exact a595 hd)))) (evl_cons (ev_idxl (ev_var 0 rfl) (ev_var 2 rfl) (n0 i) (il62 (Nat.lt_trans hi (lt62 hl))) hz) (evl_cons (ev_idxl (ev_var 1 rfl) (ev_var 2 rfl) (n0 i) (il62 (Nat.lt_trans hi (lt62 hl))) hz) evl_nil))))) nofun fun _ => ws_nil (ws_nil ⟨_, rfl, rfl⟩)⟩
      · rintro ρ σ ⟨kv, rfl, rfl⟩
        exact ws_ret ev_bool (.id _)
end
end Mine

set_option autoImplicit false
set_option linter.all false
set_option maxRecDepth 100000
namespace Mine
open PySem PySem.W PyProof.Rows
def okS (c : Nat) : Bool := (decide ((32 : Int) ≤ c) && decide ((c : Int) ≤ 126)) && !((c : Int) == 37)
def okN (w : List Nat) : Bool := decide (w.length ≤ 40) && w.all okS
structure CW (G : Gl) : Prop where
  is_sign : A_is_sign G
  is_name : A_is_name G
  most : ∃ t, G.mg "MOST_SIGNS" = some (.int 40 t)
  blank : ∃ t, G.mg "BLANK" = some (.int 32 t)
  percent : ∃ t, G.mg "PERCENT" = some (.int 37 t)
  tilde : ∃ t, G.mg "TILDE" = some (.int 126 t)
section
variable {G : Gl}
theorem CW.dn (C : CW G) : CW G.dn := ⟨C.is_sign, C.is_name, C.most, C.blank, C.percent, C.tilde⟩
theorem c_is_sign (C : CW G) {c : Nat} (hd : 0 < G.d) : Pure G "is_sign" [.str [c]] (.bool (okS c)) :=
  pure_of C.is_sign rfl hd (ws_asg 1 (ev_ord (ev_var 0 rfl)) (ws_ret (ev_bop (evb_and (ev_chain (ev_gint (G := G.dn) C.blank) (ev_var 1 rfl) (ev_gint (G := G.dn) C.tilde) cm_le cm_le) fun _ => evb_one (ev_cmp (ev_var 1 rfl) (ev_gint (G := G.dn) C.percent) cm_nei))) (.id _)))
theorem c_is_name (C : CW G) {w : List Nat} (hw : w.length ≤ 1000) (hd : 2 ≤ G.d) : Pure G "is_name" [.str w] (.bool (okN w)) := by
  have e : (w.filterMap fun c => some (V.bool (okS c))) = (w.map okS).map .bool := by rw [List.filterMap_eq_map', List.map_map]; rfl
  refine pure_of C.is_name rfl (Nat.le_trans (by decide) hd) (ws_if (tr_bop (trl_or (tr_not (tr_ev (ev_inst 10 is_str_str (ev_var 0 rfl)))) fun _ => trl_one (tr_cmp (ev_lens (ev_var 0 rfl) (Nat.lt_of_le_of_lt hw (by decide))) (ev_gint (G := G.dn) C.most) cm_gt))) (fun h => ws_ret ev_bool ?_) fun h => ws_nil (ws_ret (ev_all (Ev.to (ev_comp (caps := []) (Fv := fun c : Nat => V.str [c]) (ts := w) (fun c => some (V.bool (okS c))) (ev_var 0 rfl) rfl (Nat.le_trans hw (by decide)) (fun c hc => turn_all (ev_call (c_is_sign (G := G.dn) C.dn (dl hd)) (evl_cons (ev_var 0 rfl) evl_nil)))) (congrArg V.lst e))) ?_))
  · have h : (40 : Int) < w.length := by simpa using h
    show Res _ (.bool false) (.bool (okN w))
    unfold okN
    rw [decide_eq_false (by (first | lia | omega) : ¬ w.length ≤ 40)]; exact .id _
  · have h : ¬ (40 : Int) < w.length := by simpa using h
    show Res _ (.bool ((w.map okS).all id)) (.bool (okN w))
    unfold okN
    rw [decide_eq_true (by (first | lia | omega) : w.length ≤ 40), List.all_map]; exact .id _
end
end Mine

set_option autoImplicit false
set_option linter.all false
set_option maxRecDepth 100000
namespace Mine
open PySem PySem.W PyProof.Rows
theorem slice_hi {α : Type} (xs : List α) {i : Int} (h : 0 ≤ i) : slice xs none (some i) = xs.take i.toNat := by
  unfold slice clampI
  simp only [if_neg (Int.not_lt.mpr h), List.drop_zero]
  rw [Nat.min_def]; split
  · rfl
  · rw [List.take_of_length_le (Nat.le_refl _), List.take_of_length_le (by first | exact Nat.le_trans (by decide) hd | exact Nat.le_trans (by decide) hG | (exact a544 ‹_›))]
theorem slice_lo {α : Type} (xs : List α) {i : Int} (h : 0 ≤ i) : slice xs (some i) none = xs.drop i.toNat := by
  unfold slice clampI
  simp only [if_neg (Int.not_lt.mpr h), List.take_length]
  rw [Nat.min_def]; split
  · rfl
  · rw [List.drop_of_length_le (Nat.le_refl _), List.drop_of_length_le (by first | exact Nat.le_trans (by decide) hd | exact Nat.le_trans (by decide) hG | (exact a544 ‹_›))]
theorem slice_mid (s : List Nat) (k : Nat) : slice s (some (k : Int)) (some ((k : Int) + 1)) = (s.drop k).take 1 := by
  unfold slice clampI
  have h1 : ¬ ((k : Int) < 0) := by first | exact Nat.le_trans (by decide) hd | exact Nat.le_trans (by decide) hG | (exact a547 )
  have h2 : ¬ ((k : Int) + 1 < 0) := by first | exact Nat.le_trans (by decide) hd | exact Nat.le_trans (by decide) hG | (exact a548 )
  have h3 : ((k : Int) + 1).toNat = k + 1 := by first | exact Nat.le_trans (by decide) hd | exact Nat.le_trans (by decide) hG | (exact a550 h2)
  simp only [if_neg h1, if_neg h2, h3, Int.toNat_natCast]
  by_cases hk : k < s.length
  · rw [show min (k + 1) s.length = k + 1 by first | exact Nat.le_trans (by decide) hd | exact Nat.le_trans (by decide) hG | (exact a239 hk), show min k s.length = k by first | exact Nat.le_trans (by decide) hd | exact Nat.le_trans (by decide) hG | (exact a139 hk), List.drop_take]
    congr 1; (exact a229 )
  · rw [show min k s.length = s.length by first | exact Nat.le_trans (by decide) hd | exact Nat.le_trans (by decide) hG | (exact a553 hk)]
    rw [List.drop_eq_nil_of_le (by rw [List.length_take]; (exact a554 )), List.drop_eq_nil_of_le (by first | exact Nat.le_trans (by decide) hd | exact Nat.le_trans (by decide) hG | (exact a29 hk))]; rfl
theorem slice_take (s : List Nat) (k : Nat) : slice s none (some (k : Int)) = s.take k := by rw [slice_hi _ (by first | exact Nat.le_trans (by decide) hd | exact Nat.le_trans (by decide) hG | (exact a545 )), Int.toNat_natCast]
theorem slice_drop (s : List Nat) (k : Nat) : slice s (some (k : Int)) none = s.drop k := by rw [slice_lo _ (by first | exact Nat.le_trans (by decide) hd | exact Nat.le_trans (by decide) hG | (exact a545 )), Int.toNat_natCast]
theorem slice_drop1 (s : List Nat) (k : Nat) : slice s (some ((k : Int) + 1)) none = s.drop (k + 1) := by rw [slice_lo _ (by first | exact Nat.le_trans (by decide) hd | exact Nat.le_trans (by decide) hG | (exact a546 ))]; rfl
def treeV : Nat → List Rw → V
  | 0, _ => .none
  | _ + 1, [] => .none
  | _ + 1, [r] => .tup [.str (lit "leaf"), .str r.1, .int r.2]
  | f + 1, a :: b :: rs => .tup [.str (lit "fork"), .str (a.1.take (shareN (a :: b :: rs))), .tup ((groups (shareN (a :: b :: rs)) (a :: b :: rs)).map fun g => .tup [.str g.1, treeV f (g.2.map (cutR (shareN (a :: b :: rs))))])]
structure Good (f : Nat) (rs : List Rw) : Prop where
  srt : Srt rs
  len : ∀ r ∈ rs, r.1.length < f
  num : rs.length ≤ 1000
  fuel : f ≤ 300
theorem Good.zero {rs : List Rw} (h : Good 0 rs) : rs = [] := by
  cases rs with
  | nil => rfl
  | cons a rs => exact absurd (h.len a (by simp)) (by first | exact Nat.le_trans (by decide) hd | exact Nat.le_trans (by decide) hG | (exact a555 ))
theorem treeV_nil (f : Nat) : treeV f [] = .none := by cases f <;> rfl
theorem groups_len (k : Nat) (rs : List Rw) : (groups k rs).length ≤ rs.length := by
  have h := groups_flat k rs
  have hm := groups_mem k rs
  generalize groups k rs = gs at h hm
  subst h
  induction gs with
  | nil => simp
  | cons g gs ih =>
    rw [List.flatMap_cons, List.length_append, List.length_cons]
    have h1 := ih fun x hx => hm x (by simp [hx])
    have h2 : 0 < g.2.length := List.length_pos_iff.mpr (hm g (by simp)).1
    (exact a556 h2 h1)
theorem group_len {k : Nat} {rs : List Rw} {g : List Nat × List Rw} (hg : g ∈ groups k rs) : g.2.length ≤ rs.length := by
  have h := groups_flat k rs
  have hs : g.2.Sublist rs := by
    rw [← h]
    generalize groups k rs = gs at hg
    induction gs with
    | nil => cases hg
    | cons q gs ih =>
      rw [List.flatMap_cons]
      rcases List.mem_cons.mp hg with rfl | hg
      · exact List.sublist_append_left ..
      · exact (ih hg).trans (List.sublist_append_right ..)
  exact hs.length_le
theorem Good.group {f : Nat} {rs : List Rw} (h : Good (f + 1) rs) (h2 : 2 ≤ rs.length) {g : List Nat × List Rw} (hg : g ∈ groups (shareN rs) rs) : Good f (g.2.map (cutR (shareN rs))) := by
  have hf : 1 ≤ f := by
    match rs, h2, h with
    | a :: b :: rs, _, h =>
      have := (List.pairwise_cons.mp h.srt).1 b (by simp)
      have hb := h.len b (by simp)
      cases e : b.1 with
      | nil => rw [e] at this; exact absurd this (List.not_lt_nil _)
      | cons x xs => rw [e] at hb; simp at hb; (exact a558 hb)
  refine ⟨group_srt (srt_pre h.srt) hg, fun r hr => ?_, ?_, by have := h.fuel; (exact a559 this)⟩
  · obtain ⟨q, hq, rfl⟩ := List.mem_map.mp hr
    have := h.len q (mem_flat hg hq)
    show (q.1.drop _).length < f
    rw [List.length_drop]; (exact a560 hf this)
  · rw [List.length_map]; have := group_len hg; have := h.num; (exact a562 ‹_› this)
theorem treeV_pl : ∀ (f : Nat) {rs : List Rw}, rs.length ≤ 1000 → Pl (3 * f + 1) (treeV f rs)
  | 0, _, _ => .none _
  | _ + 1, [], _ => .none _
  | f + 1, [r], _ => by
    refine Pl.mono (n := 2) (.tup _ (show 3 ≤ sizeLine by decide) ?_) (by first | exact Nat.le_trans (by decide) hd | exact Nat.le_trans (by decide) hG | (exact a557 ))
    simp; exact ⟨.str _ _, .str _ _, .int _ _⟩
  | f + 1, a :: b :: rs, h => by
    refine .tup (3 * f + 3) (show 3 ≤ sizeLine by decide) ?_
    simp only [List.mem_cons, List.not_mem_nil, or_false, forall_eq_or_imp, forall_eq]
    refine ⟨.str _ _, .str _ _, .tup (3 * f + 2) ?_ ?_⟩
    · rw [List.length_map]; have := groups_len (shareN (a :: b :: rs)) (a :: b :: rs); have : sizeLine = 16777216 := rfl; (exact a561 ‹_› this h)
    · intro x hx
      obtain ⟨g, hg, rfl⟩ := List.mem_map.mp hx
      refine .tup (3 * f + 1) (show 2 ≤ sizeLine by decide) ?_
      simp only [List.mem_cons, List.not_mem_nil, or_false, forall_eq_or_imp, forall_eq]
      refine ⟨.str _ _, treeV_pl f ?_⟩
      rw [List.length_map]; have := group_len hg; (exact a562 this h)
def atG (gs : List (List Nat × List Rw)) (j : Nat) : Nat := ((gs.take j).flatMap (·.2)).length
theorem atG_succ {gs : List (List Nat × List Rw)} {j : Nat} {g : List Nat × List Rw} (h : gs[j]? = some g) : atG gs (j + 1) = atG gs j + g.2.length := by
  obtain ⟨hj, rfl⟩ := List.getElem?_eq_some_iff.mp h
  unfold atG; rw [List.take_succ_eq_append_getElem hj, List.flatMap_append, List.length_append, List.flatMap_singleton]
theorem treeV_ok : ∀ (f : Nat) (rs : List Rw), (treeV f rs).ok = true
  | 0, _ => rfl
  | _ + 1, [] => rfl
  | _ + 1, [_] => rfl
  | _ + 1, _ :: _ :: _ => rfl
theorem row_map (rs : List Rw) {i : Nat} {r : Rw} (h : rs[i]? = some r) : (rs.map RowV)[i]? = some (RowV r) := by rw [List.getElem?_map, h]; rfl
theorem filterMap_if {α β : Type} (p : α → Bool) (F : α → β) (l : List α) : (l.filterMap fun x => if p x then some (F x) else none) = (l.filter p).map F := by
  induction l with
  | nil => rfl
  | cons x l ih => rw [List.filterMap_cons, List.filter_cons]; cases p x <;> simp [ih]
section
variable {G : Gl} {K : Sx} {ρ : List V} {σ : Ow} {Q : KS} {ss : List Stmt}
theorem lcp_loop {i j k : Nat} {ni nj nk : Str} {a b : List Nat} {c0 c1 : Nat} {p0 p1 p2 p3 p4 p5 p6 p7 p8 p9 q0 q1 q2 q3 q4 q5 q6 q7 q8 q9 r0 r1 r2 r3 r4 r5 r6 : Pos} (ha : a.length ≤ 1000) (hb : b.length ≤ 1000)
    (hi : ∀ v, (ρ.set k v)[i]? = some (.str a)) (hj : ∀ v, (ρ.set k v)[j]? = some (.str b)) (hk : ∀ v, (ρ.set k v)[k]? = some v) (h : WS G K ss (ρ.set k (.int (lcp a b))) σ Q)
    (xi : nameOK K i ni = true := by decide +kernel) (xj : nameOK K j nj = true := by decide +kernel) (xk : nameOK K k nk = true := by decide +kernel) (hg : globOK K "len" = true := by decide +kernel) :
    WS G K (.Assign [.Name nk p0] (.Constant (.int 0) c0 p1) p2 :: .While (.BoolOp .And [.Compare (.Name nk p3) [.Lt] [.Call (.Name "len" p4) [.Name ni p5] [] p6] p7, .Compare (.Name nk p8) [.Lt] [.Call (.Name "len" p9) [.Name nj q0] [] q1] q2, .Compare (.Subscript (.Name ni q3) (.Name nk q4) q5) [.Eq] [.Subscript (.Name nj q6) (.Name nk q7) q8] q9] r0)
      [.Assign [.Name nk r1] (.BinOp (.Name nk r2) .Add (.Constant (.int 1) c1 r3) r4) r5] [] r6 :: ss) ρ σ Q := by
  refine ws_asg k ev_int (ws_while (fun n ρ' σ' => ∃ l : Nat, ρ' = ρ.set k (.int l) ∧ l ≤ lcp a b ∧ n = a.length - l ∧ σ' = σ) a.length ⟨0, rfl, Nat.zero_le _, rfl, rfl⟩ ?_) xk
  rintro n ρ' σ' ⟨l, rfl, hl, rfl, rfl⟩
  have hs := lcp_step a b l hl
  have vk : ∀ {p}, Ev G K (ρ.set k (.int l)) σ' (.Name nk p) (.int l) := ev_var k (hk _) rfl xk
  have vi : ∀ {p}, Ev G K (ρ.set k (.int l)) σ' (.Name ni p) (.str a) := ev_var i (hi _) rfl xi
  have vj : ∀ {p}, Ev G K (ρ.set k (.int l)) σ' (.Name nj p) (.str b) := ev_var j (hj _) rfl xj
  refine ⟨_, tr_bop (trl_and (tr_cmp vk (ev_lens vi (by first | exact Nat.le_trans (by decide) hd | exact Nat.le_trans (by decide) hG | (exact a565 ha)) rfl hg) cm_lt) fun h1 => trl_and (tr_cmp vk (ev_lens vj (by first | exact Nat.le_trans (by decide) hd | exact Nat.le_trans (by decide) hG | (exact a565 hb)) rfl hg) cm_lt) fun h2 => trl_one (tr_cmp (ev_idxs vi vk (n0 l) (of_decide_eq_true h1) (by first | exact Nat.le_trans (by decide) hd | exact Nat.le_trans (by decide) hG | (exact a565 ha))) (ev_idxs vj vk (n0 l) (of_decide_eq_true h2) (by first | exact Nat.le_trans (by decide) hd | exact Nat.le_trans (by decide) hG | (exact a565 hb))) cm_eqs)), fun ht => ?_, fun hf => ?_⟩
  · simp only [Bool.and_eq_true, decide_eq_true_eq, beq_iff_eq, List.cons.injEq, and_true, Int.toNat_natCast] at ht
    have hm := hs.mp ⟨by first | exact Nat.le_trans (by decide) hd | exact Nat.le_trans (by decide) hG | (exact a568 ht), by first | exact Nat.le_trans (by decide) hd | exact Nat.le_trans (by decide) hG | (exact a570 ht), ht.2.2⟩
    have := (lcp_le a b).1
    exact ws_asg k (ev_add vk ev_int) (ws_nil ⟨a.length - (l + 1), by first | exact Nat.le_trans (by decide) hd | exact Nat.le_trans (by decide) hG | (exact a572 ht), l + 1, by rw [List.set_set]; rfl, hm, rfl, rfl⟩) xk
  · have : l = lcp a b := by
      apply Classical.byContradiction
      intro hn
      have := hs.mpr (by first | exact Nat.le_trans (by decide) hd | exact Nat.le_trans (by decide) hG | (exact a77 hl hn))
      refine Bool.false_ne_true (hf.symm.trans ?_)
      simp only [Bool.and_eq_true, decide_eq_true_eq, beq_iff_eq, List.cons.injEq, and_true, Int.toNat_natCast]
      exact ⟨by first | exact Nat.le_trans (by decide) hd | exact Nat.le_trans (by decide) hG | (exact a574 this), by first | exact Nat.le_trans (by decide) hd | exact Nat.le_trans (by decide) hG | (exact a576 this), this.2.2⟩
    rw [this]; exact h
theorem ev_row0 {e : PySem.Expr} {r : Row} {c : Nat} {p p' : Pos} (h : Ev G K ρ σ e (RowV r)) : Ev G K ρ σ (.Subscript e (.Constant (.int 0) c p) p') (.str r.1) := ev_idxt h ev_int (by decide) (by decide) rfl
theorem ev_row1 {e : PySem.Expr} {r : Row} {c : Nat} {p p' : Pos} (h : Ev G K ρ σ e (RowV r)) : Ev G K ρ σ (.Subscript e (.Constant (.int 1) c p) p') (.int r.2) := ev_idxt h ev_int (by decide) (by decide) rfl
end
end Mine

set_option autoImplicit false
set_option linter.all false
set_option maxRecDepth 100000
namespace Mine
open PySem PySem.W PyProof.Rows
section
variable {G : Gl}
theorem c_common (FA : A_common G) {a b : List Nat} (ha : a.length ≤ 1000) (hb : b.length ≤ 1000) (hd : 0 < G.d) : Pure G "common" [.str a, .str b] (.str (a.take (lcp a b))) := by
  refine pure_of FA rfl hd (lcp_loop (i := 0) (j := 1) (k := 2) ha hb (fun _ => rfl) (fun _ => rfl) (fun _ => rfl) (ws_ret (ev_slc (ev_var 0 rfl) evo_none (evo_some (ev_var 2 rfl)) (by rw [szL]; (exact a411 ha))) ?_))
  rw [slice_take]; exact Res.id _
end
end Mine

set_option autoImplicit false
set_option linter.all false
set_option maxRecDepth 100000
namespace Mine
open PySem PySem.W PyProof.Rows
section
variable {G : Gl}
theorem c_rest (FA : A_rest G) {a b : List Nat} (ha : a.length ≤ 1000) (hb : b.length ≤ 1000) (hd : 0 < G.d) : Pure G "rest" [.str a, .str b] (if b.isPrefixOf a then .str (a.drop b.length) else .none) := by
  refine pure_of FA rfl hd (ws_if (tr_ev (ev_starts (ev_var 0 rfl) (ev_var 1 rfl))) (fun h => ?_) (fun h => ?_))
  · refine ws_ret (ev_slc (ev_var 0 rfl) (evo_some (ev_lens (ev_var 1 rfl) (by first | exact Nat.le_trans (by decide) hd | exact Nat.le_trans (by decide) hG | (exact a565 hb)))) evo_none (by rw [szL]; (exact a411 ha))) ?_
    rw [slice_drop, if_pos h]; exact Res.id _
  · refine ws_nil (ws_ret ev_none ?_)
    rw [h]; exact Res.id _
end
end Mine

set_option autoImplicit false
set_option linter.all false
set_option maxRecDepth 100000
namespace Mine
open PySem PySem.W PyProof.Rows
section
variable {G : Gl}
def pairR (t : List Nat) (r : Rw) : V := RowV (t ++ r.1, r.2)
theorem σ1_self (a : Addr) (xs : List V) : σ1 a xs a = some (.lst xs) := Ow.set_self ..
theorem set_set (σ : Ow) (a : Addr) (xs ys : List V) : (σ.set a xs).set a ys = σ.set a ys := funext fun c => by
  unfold Ow.set Ow.put
  split <;> rfl
theorem c_gather : ∀ (f : Nat) {G : Gl} {rs : List Rw} {t : List Nat} {p : Addr} {acc : List V}, A_gather G → Good f rs → t.length + 301 * f ≤ 200000 → acc.length + rs.length ≤ 10000 → f + 1 ≤ G.d →
    Proc G "gather" [treeV f rs, .str t, .ref p] p acc (acc ++ rs.map (pairR t)) := by
  intro f
  have nil : ∀ {G : Gl} {t : List Nat} {p : Addr} {acc : List V}, A_gather G → 0 < G.d → Proc G "gather" [.none, .str t, .ref p] p acc (acc ++ [].map (pairR t)) := fun FA hd => by
    refine proc_of FA rfl hd (ws_if (tr_cmp (ev_var 0 rfl) ev_none cm_is_none) (fun _ => ws_retN ?_) nofun)
    rw [List.map_nil, List.append_nil]; exact σ1_self ..
  induction f with
  | zero =>
    intro G rs t p acc FA hg ht hl hd
    cases hg.zero
    exact nil FA (by first | exact Nat.le_trans (by decide) hd | exact Nat.le_trans (by decide) hG | (first | lia | omega))
  | succ f ih =>
    intro G rs t p acc FA hg ht hl hd
    match rs, hg, hl with
    | [], hg, hl => exact nil FA (by first | exact Nat.le_trans (by decide) hd | exact Nat.le_trans (by decide) hG | (exact a579 hd))
    | [r], hg, hl =>
      have hr := hg.len r (by simp)
      have hl' : acc.length + 1 ≤ 10000 := hl
      refine proc_of FA rfl (by first | exact Nat.le_trans (by decide) hd | exact Nat.le_trans (by decide) hG | (exact a579 hd)) (ws_if (tr_cmp (ev_var 0 rfl) ev_none (cm_is_nn rfl)) nofun fun _ => ws_nil (ws_if (tr_cmp (ev_idxt (ev_var 0 rfl) ev_int (by decide) (by decide) rfl) (ev_lit (lit "leaf")) cm_eqs) (fun _ => ?_) fun h => absurd h (by rw [beq_self_eq_true]; decide)))
      exact ws_append (ev_var 2 rfl) (σ1_self ..) (ev_tuple (evl_cons (ev_adds (ev_var 1 rfl) (ev_idxt (ev_var 0 rfl) ev_int (by decide) (by decide) rfl) (by rw [szL]; (exact a586 ht hr))) (evl_cons (ev_idxt (ev_var 0 rfl) ev_int (by decide) (by decide) rfl) evl_nil)) sz2) (by rw [szL]; (exact a587 hl')) (ws_retN (Ow.set_self ..))
    | a :: b :: rs, hg, hl =>
      have h2 : 2 ≤ (a :: b :: rs).length := by simp
      generalize hrs : a :: b :: rs = rs' at *
      have ha : a ∈ rs' := by rw [← hrs]; simp
      have hal := hg.len a ha
      have htv : treeV (f + 1) rs' = .tup [.str (lit "fork"), .str (a.1.take (shareN rs')), .tup ((groups (shareN rs') rs').map fun g => .tup [.str g.1, treeV f (g.2.map (cutR (shareN rs')))])] := by rw [← hrs]; rfl
      rw [htv]
      have P := srt_pre hg.srt
      have hfu := hg.fuel
      refine proc_of FA rfl (by first | exact Nat.le_trans (by decide) hd | exact Nat.le_trans (by decide) hG | (exact a579 hd)) (ws_if (tr_cmp (ev_var 0 rfl) ev_none (cm_is_nn rfl)) nofun fun _ => ws_nil (ws_if (tr_cmp (ev_idxt (ev_var 0 rfl) ev_int (by decide) (by decide) rfl) (ev_lit (lit "leaf")) cm_eqs) (fun h => absurd h (by decide +kernel)) fun _ => ws_nil ?_))
      refine ws_for (fun i ρ σ => σ = σ1 p (acc ++ (((groups (shareN rs') rs').take i).flatMap (·.2)).map (pairR t)) ∧ ∃ v w, ρ = [.tup [.str (lit "fork"), .str (a.1.take (shareN rs')), .tup ((groups (shareN rs') rs').map fun g => .tup [.str g.1, treeV f (g.2.map (cutR (shareN rs')))])], .str t, .ref p, v, w])
        (ev_idxt (ev_var 0 rfl) ev_int (by decide) (by decide) rfl) rfl ⟨?_, .unb, .unb, rfl⟩ ?_ ?_
      · rw [List.take_zero]; simp
      · rintro i ρ σ x hx ⟨rfl, v, w, rfl⟩
        rw [List.getElem?_map] at hx
        obtain ⟨g, hgi, rfl⟩ := Option.map_eq_some_iff.mp hx
        have hgm := List.mem_of_getElem? hgi
        have hm := groups_mem _ _ g hgm
        have hgl : g.1.length ≤ 1 := by
          obtain ⟨x, xs, hx⟩ := List.exists_cons_of_ne_nil hm.1
          rw [← hm.2 x (by rw [hx]; simp)]; unfold sg; rw [List.length_take]; (exact a592 )
        have e := atG_succ hgi
        have e2 : atG (groups (shareN rs') rs') (i + 1) ≤ rs'.length := by
          conv => rhs; rw [← groups_flat (shareN rs') rs', ← List.take_append_drop (i + 1) (groups (shareN rs') rs'), List.flatMap_append, List.length_append]
          exact Nat.le_add_right _ _
        unfold atG at e e2
        have htl : (a.1.take (shareN rs')).length ≤ 1000 := by rw [List.length_take]; (exact a593 hfu hal)
        refine ⟨_, asg_tup2 3 4, ws_proc (ih (G := G.dn) (t := t ++ a.1.take (shareN rs') ++ g.1) FA (hg.group h2 hgm) ?_ ?_ (by first | exact dl hd | exact dl0 hd | (show f + 1 ≤ G.d - 1; (exact a595 hd)))) (evl_cons (ev_var 4 rfl (treeV_ok _ _)) (evl_cons (ev_adds (ev_adds (ev_var 1 rfl) (ev_idxt (ev_var 0 rfl) ev_int (by decide) (by decide) rfl) ?_) (ev_var 3 rfl) ?_) (evl_cons (ev_var 2 rfl) evl_nil))) (σ1_self ..) (ws_nil ⟨?_, _, _, rfl⟩)⟩
        · have := hal; rw [List.length_append, List.length_append, List.length_take]; (exact a596 ht hfu hal hgl)
        · rw [List.length_append, List.length_map, List.length_map]; (exact a597 hl e e2)
        · rw [szL]; (exact a598 ht htl)
        · rw [szL, List.length_append]; (exact a599 ht htl hgl)
        · unfold σ1
          rw [set_set]
          obtain ⟨hi, e⟩ := List.getElem?_eq_some_iff.mp hgi
          rw [List.take_succ_eq_append_getElem hi, List.flatMap_append, List.flatMap_singleton, List.map_append, List.append_assoc, e, List.map_map]
          congr 3
          refine List.map_congr_left fun r hr => ?_
          have hra : r.1.take (shareN rs') = a.1.take (shareN rs') := P.pre r (mem_flat hgm hr) a ha
          have := parts (shareN rs') r.1
          have hsg := hm.2 r hr
          unfold sg at hsg
          rw [hsg, hra] at this
          show RowV _ = RowV _
          unfold cutR
          congr 2
          simp only [List.append_assoc, this]
      · rintro ρ σ ⟨rfl, v, w, rfl⟩
        refine ws_nil ?_
        rw [List.length_map, List.take_length, groups_flat]
        exact σ1_self ..
theorem c_names (FA : A_gather G) (FN : A_names G) {f : Nat} {rs : List Rw} (hg : Good f rs) (hd : f + 2 ≤ G.d) : Pure G "names" [treeV f rs] (.lst (rs.map RowV)) := by
  have hfu := hg.fuel
  have hn := hg.num
  exact pure_of FN rfl (by first | exact Nat.le_trans (by decide) hd | exact Nat.le_trans (by decide) hG | (exact a580 hd)) (ws_new 1 fun a _ => ws_proc (c_gather f (G := G.dn) (t := []) FA hg (by show 0 + _ ≤ _; (exact a581 hfu)) (by show 0 + _ ≤ _; (exact a582 hn)) (by first | exact dl hd | exact dl0 hd | (show f + 1 ≤ G.d - 1; (exact a583 hd)))) (evl_cons (ev_var 0 rfl (treeV_ok _ _)) (evl_cons (ev_lit []) (evl_cons (ev_var 1 rfl) evl_nil))) (Ow.set_self ..) (ws_ret (ev_var 1 rfl) (.frz (Ow.set_self ..))))
def brV (f k : Nat) (g : List Nat × List Rw) : V := .tup [.str g.1, treeV f (g.2.map (cutR k))]
theorem one62 : 1 < 2 ^ 62 := by decide
end
end Mine

set_option autoImplicit false
set_option linter.all false
set_option maxRecDepth 100000
namespace Mine
open PySem PySem.W PyProof.Rows
structure GOk (k : Nat) (ga : Addr) (bs : List ((List Nat × List Rw) × Addr)) (σ : Ow) : Prop where
  own : σ ga = some (.lst (bs.map fun x => .tup [.str x.1.1, .ref x.2]))
  cells : ∀ x ∈ bs, σ x.2 = some (.lst ((x.1.2.map (cutR k)).map RowV)) ∧ x.2 ≠ ga
  apart : bs.Pairwise fun x y => x.2 ≠ y.2
section
variable {k : Nat} {ga : Addr} {bs : List ((List Nat × List Rw) × Addr)} {σ : Ow}
theorem GOk.new {b : Addr} {s : List Nat} (D : GOk k ga bs σ) (hb : σ b = none) (hne : b ≠ ga) : GOk k ga (bs ++ [((s, []), b)]) ((σ.set b []).set ga ((bs.map fun x => .tup [.str x.1.1, .ref x.2]) ++ [.tup [.str s, .ref b]])) := by
  have nb : ∀ x ∈ bs, x.2 ≠ b := fun x hx e => by have := (D.cells x hx).1; rw [e, hb] at this; cases this
  refine ⟨by rw [Ow.set_self, List.map_append]; rfl, fun x hx => ?_, ?_⟩
  · rcases List.mem_append.mp hx with h | h
    · exact ⟨by rw [Ow.set_ne _ _ (D.cells x h).2, Ow.set_ne _ _ (nb x h)]; exact (D.cells x h).1, (D.cells x h).2⟩
    · cases List.mem_singleton.mp h; exact ⟨by rw [Ow.set_ne _ _ hne, Ow.set_self]; rfl, hne⟩
  · rw [List.pairwise_append]
    exact ⟨D.apart, List.pairwise_singleton .., fun x hx y hy => by cases List.mem_singleton.mp hy; exact nb x hx⟩
theorem GOk.put {s : List Nat} {g : List Rw} {b : Addr} {r : Rw} (D : GOk k ga (bs ++ [((s, g), b)]) σ) : GOk k ga (bs ++ [((s, g ++ [r]), b)]) (σ.set b ((g.map (cutR k)).map RowV ++ [RowV (cutR k r)])) := by
  have hb := D.cells ((s, g), b) (by simp)
  have ap := List.pairwise_append.mp D.apart
  refine ⟨by rw [Ow.set_ne _ _ hb.2.symm, D.own, List.map_append, List.map_append]; rfl, fun x hx => ?_, ?_⟩
  · rcases List.mem_append.mp hx with h | h
    · have hx := D.cells x (by simp [h])
      exact ⟨by rw [Ow.set_ne _ _ (ap.2.2 x h _ (List.mem_singleton.mpr rfl))]; exact hx.1, hx.2⟩
    · cases List.mem_singleton.mp h; exact ⟨by rw [Ow.set_self, List.map_append, List.map_append]; rfl, hb.2⟩
  · rw [List.pairwise_append]
    exact ⟨ap.1, List.pairwise_singleton .., fun x hx y hy => by cases List.mem_singleton.mp hy; exact ap.2.2 x hx ((s, g), b) (List.mem_singleton.mpr rfl)⟩
theorem GOk.res (D : GOk k ga bs σ) : Res σ (.ref ga) (.lst ((bs.map (·.1)).map fun g => .tup [.str g.1, .lst ((g.2.map (cutR k)).map RowV)])) := by
  refine .own D.own ?_
  have h := D.cells
  clear D
  induction bs with
  | nil => exact .nil
  | cons x bs ih => exact .cons (.tup (.cons (.id _) (.cons (.frz (h x (by simp)).1) .nil))) (ih fun y hy => h y (by simp [hy]))
end
def groupV (k : Nat) (g : List Nat × List Rw) : V := .tup [.str g.1, .lst ((g.2.map (cutR k)).map RowV)]
section
variable {G : Gl}
theorem gtail {K : Sx} {ρ : List V} {σ : Ow} {Q : KS} {ss : List Stmt} {k : Nat} {ga : Addr} {bs : List ((List Nat × List Rw) × Addr)} {s : List Nat} {g : List Rw} {b : Addr} {r : Rw} {i j l m : Nat} {ng nn ns nu : Str} {c c' c'' m' : Nat} {p0 p1 p2 p3 p4 p5 p6 p7 p8 p9 q0 q1 q2 q3 q4 q5 ap : Pos}
    (D : GOk k ga (bs ++ [((s, g), b)]) σ) (hg : g.length ≤ 10000) (hr : r.1.length ≤ 1000) (hi : ρ[i]? = some (.ref ga)) (hj : ρ[j]? = some (.str r.1)) (hl : ρ[l]? = some (.int k)) (hm : ρ[m]? = some (.int r.2)) (h : WS G K ss ρ (σ.set b ((g.map (cutR k)).map RowV ++ [RowV (cutR k r)])) Q)
    (xi : nameOK K i ng = true := by decide +kernel) (xj : nameOK K j nn = true := by decide +kernel) (xl : nameOK K l ns = true := by decide +kernel) (xm : nameOK K m nu = true := by decide +kernel) (hp : (ap.endLine == q4.line) = true := by rfl) :
    WS G K (.Expr (.Call (.Attribute (.Subscript (.Subscript (.Name ng p0) (.UnaryOp .USub (.Constant (.int 1) c p1) p2) p3) (.Constant (.int 1) c' p4) p5) "append" ap) [.Tuple [.Subscript (.Name nn p6) (.Slice (some (.BinOp (.Name ns p7) .Add (.Constant (.int 1) c'' p8) p9)) none none q0) q1, .Name nu q2] m' q3] [] q4) q5 :: ss) ρ σ Q := by
  refine ws_append (a := b) (ev_idxt (xs := [.str s, .ref b]) (ev_idxo_last (ev_var i hi rfl xi) (ev_neg ev_int) D.own (by rw [List.map_append]; exact List.getLast?_concat ..)) ev_int (by decide) (by decide) rfl) (D.cells ((s, g), b) (by simp)).1
    (ev_tuple (evl_cons (ev_slc (ev_var j hj rfl xj) (evo_some (ev_add (ev_var l hl rfl xl) ev_int)) evo_none (by rw [szL]; (exact a411 hr))) (evl_cons (ev_var m hm rfl xm) evl_nil)) sz2) (by rw [List.length_map, List.length_map, szL]; exact Nat.le_trans hg (by decide)) ?_ (by intros; rfl) hp
  rw [slice_drop1]; exact h
theorem c_grouped (FA : A_grouped G) {rs : List Rw} {k : Nat} (hk : k ≤ 10000) (hl : ∀ r ∈ rs, r.1.length ≤ 1000) (hn : rs.length ≤ 10000) (hd : 0 < G.d) : Pure G "grouped" [.lst (rs.map RowV), .int k] (.lst ((groups k rs).map (groupV k))) := by
  refine pure_of FA rfl hd (ws_new 2 fun ga _ => ?_)
  refine ws_for (fun i ρ σ => ∃ bs, GOk k ga bs σ ∧ bs.map (·.1) = groups k (rs.take i) ∧ ∃ u v w, ρ = [.lst (rs.map RowV), .int k, .ref ga, u, v, w]) (ev_var 0 rfl) rfl ⟨[], ⟨Ow.set_self .., nofun, .nil⟩, rfl, .unb, .unb, .unb, rfl⟩ ?_ ?_
  · rintro i ρ σ x hx ⟨bs, D, hmap, u, v, w, rfl⟩
    rw [List.getElem?_map] at hx
    obtain ⟨r, hr, rfl⟩ := Option.map_eq_some_iff.mp hx
    obtain ⟨hi, e⟩ := List.getElem?_eq_some_iff.mp hr
    have htk : rs.take (i + 1) = rs.take i ++ [r] := by rw [List.take_succ_eq_append_getElem hi, e]
    have hrl := hl r (List.mem_of_getElem? hr)
    have hbl : bs.length ≤ 10000 := by
      have := congrArg List.length hmap
      rw [List.length_map] at this
      have := groups_len k (rs.take i)
      rw [List.length_take] at this; (exact a602 ‹_› hn this)
    have hgl : ∀ s g b, ((s, g), b) ∈ bs → g.length ≤ 10000 := fun s g b h => by
      have : (s, g) ∈ groups k (rs.take i) := by rw [← hmap]; exact List.mem_map_of_mem (f := (·.1)) h
      have h3 : g.length ≤ (rs.take i).length := group_len this
      rw [List.length_take] at h3; (exact a604 h3 hn)
    have hlast : ∀ {bs : List ((List Nat × List Rw) × Addr)} {x : (List Nat × List Rw) × Addr}, ((bs ++ [x]).map fun x => V.tup [.str x.1.1, .ref x.2]).getLast? = some (.tup [.str x.1.1, .ref x.2]) := fun {bs x} => by rw [List.map_append]; exact List.getLast?_concat ..
    refine ⟨_, asg_tup2 3 4, ws_asg 5 (ev_slc (ev_var 3 rfl) (evo_some (ev_var 1 rfl)) (evo_some (ev_add (ev_var 1 rfl) ev_int)) (by rw [szL]; (exact a411 hrl))) ?_⟩
    rw [slice_mid]
    rcases last_cases bs with rfl | ⟨bs', ⟨⟨s, g⟩, b⟩, rfl⟩
    · refine ws_if (tr_bop (trl_or (b := true) (tr_cmp (ev_leno (ev_var 2 rfl) D.own (by decide)) ev_int cm_eqi) nofun (c := true))) (fun _ => ws_append_new (ev_var 2 rfl) D.own (ev_var 5 rfl) sz0 fun b hb hne => ws_nil ?_) nofun
      exact gtail (i := 2) (j := 3) (l := 1) (m := 4) (D.new hb hne) (by decide) (by first | exact Nat.le_trans (by decide) hd | exact Nat.le_trans (by decide) hG | (exact hrl)) rfl rfl rfl rfl (ws_nil ⟨_, (D.new hb hne).put, by rw [htk, groups_snoc, ← hmap]; rfl, _, _, _, rfl⟩)
    · have hg1 := hgl s g b (by simp)
      have hb1 : (bs' ++ [((s, g), b)]).length = bs'.length + 1 := by rw [List.length_append]; rfl
      refine ws_if (tr_bop (trl_or (tr_cmp (ev_leno (ev_var 2 rfl) D.own (by rw [List.length_map]; (exact a498 hbl))) ev_int cm_eqi) fun _ => trl_one (tr_cmp (ev_idxt (ev_idxo_last (ev_var 2 rfl) (ev_neg ev_int) D.own hlast) ev_int (by decide) (by decide) rfl) (ev_var 5 rfl) cm_nes))) (fun h => ws_append_new (ev_var 2 rfl) D.own (ev_var 5 rfl) (by rw [List.length_map, szL]; (exact a39 hbl)) fun b₂ hb hne => ws_nil ?_) (fun h => ws_nil ?_)
      · have e : s ≠ sg k r := by
          rintro rfl
          rw [List.length_map, hb1] at h
          simp [sg] at h
          (exact a613 h)
        exact gtail (i := 2) (j := 3) (l := 1) (m := 4) (D.new hb hne) (by decide) (by first | exact Nat.le_trans (by decide) hd | exact Nat.le_trans (by decide) hG | (exact hrl)) rfl rfl rfl rfl (ws_nil ⟨_, (D.new hb hne).put, by rw [htk, groups_snoc, ← hmap, List.map_append, List.map_append]; exact (addG_new k _ s g r e).symm, _, _, _, rfl⟩)
      · have e : s = sg k r := by
          have := (Bool.or_eq_false_iff.mp h).2
          have : s = (r.1.drop k).take 1 := by simpa using this
          exact this
        exact gtail (i := 2) (j := 3) (l := 1) (m := 4) D hg1 (by first | exact Nat.le_trans (by decide) hd | exact Nat.le_trans (by decide) hG | (exact hrl)) rfl rfl rfl rfl (ws_nil ⟨_, D.put, by rw [htk, groups_snoc, ← hmap, List.map_append, List.map_append]; exact (addG_same k _ s g r e).symm, _, _, _, rfl⟩)
  · rintro ρ σ ⟨bs, D, hmap, u, v, w, rfl⟩
    rw [List.length_map, List.take_length] at hmap
    refine ws_ret (ev_var 2 rfl) ?_
    have := D.res
    rw [hmap] at this
    exact this
theorem c_built : ∀ (f : Nat) {G : Gl} {rs : List Rw}, A_common G → A_grouped G → A_built G → Good f rs → f + 2 ≤ G.d → Pure G "built" [.lst (rs.map RowV)] (treeV f rs) := by
  intro f
  have nil : ∀ (f : Nat) {G : Gl}, A_built G → 0 < G.d → Pure G "built" [.lst []] (treeV f []) := fun f G FA hd => by
    rw [treeV_nil]
    exact pure_of FA rfl hd (ws_if (tr_cmp (ev_lenl (ev_var 0 rfl) (by decide)) ev_int cm_eqi) (fun _ => ws_ret ev_none (.id _)) nofun)
  induction f with
  | zero => intro G rs FC FG FA hg hd; cases hg.zero; exact nil 0 FA (by first | exact Nat.le_trans (by decide) hd | exact Nat.le_trans (by decide) hG | (first | lia | omega))
  | succ f ih =>
    intro G rs FC FG FA hg hd
    match rs, hg with
    | [], hg => exact nil _ FA (by first | exact Nat.le_trans (by decide) hd | exact Nat.le_trans (by decide) hG | (exact a614 hd))
    | [r], hg =>
      have hr := hg.len r (by simp)
      refine pure_of FA rfl (by first | exact Nat.le_trans (by decide) hd | exact Nat.le_trans (by decide) hG | (exact a614 hd)) (ws_if (tr_cmp (ev_lenl (ev_var 0 rfl) one62) ev_int cm_eqi) nofun fun _ => ws_nil (ws_if (tr_cmp (ev_lenl (ev_var 0 rfl) one62) ev_int cm_eqi) (fun _ => ?_) nofun))
      exact ws_ret (ev_tuple (evl_cons (ev_lit (lit "leaf")) (evl_cons (ev_row0 (r := r) (ev_idxl (ev_var 0 rfl) ev_int (by decide) (by decide) rfl)) (evl_cons (ev_row1 (r := r) (ev_idxl (ev_var 0 rfl) ev_int (by decide) (by decide) rfl)) evl_nil))) sz3) (.id _)
    | a0 :: b0 :: rs, hg =>
      have h2 : 2 ≤ (a0 :: b0 :: rs).length := by simp
      obtain ⟨z0, hz0⟩ : ∃ z, (a0 :: b0 :: rs).getLast? = some z := ⟨_, List.getLast?_eq_some_getLast (by simp)⟩
      have hk : shareN (a0 :: b0 :: rs) = lcp a0.1 z0.1 := shareN_eq hz0
      have h0r : (a0 :: b0 :: rs)[0]? = some a0 := rfl
      have htv : treeV (f + 1) (a0 :: b0 :: rs) = .tup [.str (lit "fork"), .str (a0.1.take (shareN (a0 :: b0 :: rs))), .tup ((groups (shareN (a0 :: b0 :: rs)) (a0 :: b0 :: rs)).map (brV f (shareN (a0 :: b0 :: rs))))] := rfl
      generalize a0 :: b0 :: rs = rs' at *
      rw [htv]
      have hal := hg.len a0 (List.mem_of_getElem? h0r)
      have hz0m : z0 ∈ rs' := by rw [List.getLast?_eq_getElem?] at hz0; exact List.mem_of_getElem? hz0
      have hzl := hg.len z0 hz0m
      have hfu := hg.fuel
      have hn := hg.num
      have hlen : (rs'.map RowV).length = rs'.length := List.length_map ..
      have hgg : ∀ g ∈ groups (shareN rs') rs', Good f (g.2.map (cutR (shareN rs'))) := fun g h => hg.group h2 h
      have hgl := groups_len (shareN rs') rs'
      generalize hkk : shareN rs' = k at *
      have hkle := lcp_le a0.1 z0.1
      have h62 : (rs'.map RowV).length < 2 ^ 62 := by rw [hlen]; (exact a565 hn)
      have hkl : (a0.1.take k).length = k := by rw [List.length_take]; (exact a615 hkle hk)
      refine pure_of FA rfl (by first | exact Nat.le_trans (by decide) hd | exact Nat.le_trans (by decide) hG | (exact a614 hd)) (ws_if (tr_cmp (ev_lenl (ev_var 0 rfl) h62) ev_int cm_eqi) (fun h => ?_) fun _ => ws_nil (ws_if (tr_cmp (ev_lenl (ev_var 0 rfl) h62) ev_int cm_eqi) (fun h => ?_) fun _ => ws_nil ?_))
      · have h := eq_of_beq h; (exact (a616 ‹_› h2 hlen).elim)
      · have h := eq_of_beq h; (exact (a617 ‹_› h2 hlen).elim)
      refine ws_asg 1 (ev_call (c_common (G := G.dn) (a := a0.1) (b := z0.1) FC (by first | exact Nat.le_trans (by decide) hd | exact Nat.le_trans (by decide) hG | (exact a618 hfu hal)) (by first | exact Nat.le_trans (by decide) hd | exact Nat.le_trans (by decide) hG | (exact a618 hfu hzl)) (by first | exact dl hd | exact dl0 hd | (show 0 < G.d - 1; (exact a619 hd)))) (evl_cons (ev_row0 (ev_idxl (ev_var 0 rfl) ev_int (by decide) (by decide) (row_map _ h0r))) (evl_cons (ev_row0 (ev_idxl_last (ev_var 0 rfl) (ev_neg ev_int) h62 (by rw [List.getLast?_map, hz0]; rfl))) evl_nil))) ?_
      rw [← hk]
      refine ws_new 2 fun c _ => ?_
      refine ws_for (fun i ρ σ => σ = σ1 c (((groups k rs').take i).map (brV f k)) ∧ ∃ u v, ρ = [.lst (rs'.map RowV), .str (a0.1.take k), .ref c, u, v]) (ev_call (c_grouped (G := G.dn) (k := k) FG (by first | exact Nat.le_trans (by decide) hd | exact Nat.le_trans (by decide) hG | (exact a620 hfu hkle hk hzl)) (fun r hr => by have := hg.len r hr; (exact a618 hfu this)) (by first | exact Nat.le_trans (by decide) hd | exact Nat.le_trans (by decide) hG | (exact a466 hn)) (by first | exact dl hd | exact dl0 hd | (show 0 < G.d - 1; (exact a619 hd)))) (evl_cons (ev_var 0 rfl) (evl_cons ((ev_lens (a := a0.1.take k) (ev_var 1 rfl) (by first | exact Nat.le_trans (by decide) hd | exact Nat.le_trans (by decide) hG | (exact a621 hfu hkle hkl hzl hk))).to (by rw [hkl])) evl_nil))) rfl ⟨rfl, .unb, .unb, rfl⟩ ?_ ?_
      · rintro i ρ σ x hx ⟨rfl, u, v, rfl⟩
        rw [List.getElem?_map] at hx
        obtain ⟨g, hgi, rfl⟩ := Option.map_eq_some_iff.mp hx
        have hgm := List.mem_of_getElem? hgi
        refine ⟨_, asg_tup2 3 4, ws_append (ev_var 2 rfl) (σ1_self ..) (ev_tuple (evl_cons (ev_var 3 rfl) (evl_cons (ev_call (ih (G := G.dn) FC FG FA (hgg g hgm) (by first | exact dl hd | exact dl0 hd | (show f + 2 ≤ G.d - 1; (exact a622 hd)))) (evl_cons (ev_var 4 rfl) evl_nil)) evl_nil)) sz2) (by rw [List.length_map, List.length_take, szL]; (exact a623 hgl hn)) (ws_nil ⟨?_, _, _, rfl⟩)⟩
        unfold σ1
        rw [set_set]
        obtain ⟨hi, e⟩ := List.getElem?_eq_some_iff.mp hgi
        rw [List.take_succ_eq_append_getElem hi, e, List.map_append]; rfl
      · rintro ρ σ ⟨rfl, u, v, rfl⟩
        rw [List.length_map, List.take_length]
        exact ws_ret (ev_tuple (evl_cons (ev_lit (lit "fork")) (evl_cons (ev_var 1 rfl) (evl_cons (ev_tuplo (ev_var 2 rfl) (σ1_self ..) (by rw [List.length_map, szL]; (exact a624 hgl hn))) evl_nil))) sz3) (.id _)
end
end Mine

set_option autoImplicit false
set_option linter.all false
set_option maxRecDepth 100000
namespace Mine
open PySem PySem.W PyProof.Rows
structure Rows (rs : List Rw) : Prop where
  srt : Srt rs
  len : ∀ r ∈ rs, r.1.length ≤ 40
  num : rs.length ≤ 150
theorem Rows.good {rs : List Rw} (h : Rows rs) {f : Nat} (hf : 41 ≤ f) (hf' : f ≤ 300) : Good f rs := ⟨h.srt, fun r hr => by have := h.len r hr; (exact a584 hf this), by have := h.num; (exact a585 this), hf'⟩
def leR (a b : Rw) : Bool := !decide (b.1 < a.1)
def sortR (rs : List Rw) : List Rw := rs.mergeSort leR
theorem sortR_perm (rs : List Rw) : (sortR rs).Perm rs := List.mergeSort_perm ..
theorem sortR_srt {rs : List Rw} (d : Dst rs) : Srt (sortR rs) := by
  refine srt_of (d.perm (sortR_perm rs).symm) ((List.pairwise_mergeSort (le := leR) (fun a b c h1 h2 => ?_) (fun a b => ?_) rs).imp fun {a b} h => ?_)
  · have h1 : ¬ b.1 < a.1 := by simpa [leR] using h1
    have h2 : ¬ c.1 < b.1 := by simpa [leR] using h2
    have : ¬ c.1 < a.1 := fun h => (lt_tri a.1 b.1).elim (fun q => h2 (List.lt_trans h q)) fun q => q.elim (fun q => h2 (q ▸ h)) h1
    simpa [leR] using this
  · rcases lt_tri a.1 b.1 with q | q | q
    · simp [leR, List.lt_asymm q]
    · simp [leR, q, List.lt_irrefl]
    · simp [leR, List.lt_asymm q]
  · simpa [leR] using h
theorem sortR_rows {rs : List Rw} (d : Dst rs) (hl : ∀ r ∈ rs, r.1.length ≤ 40) (hn : rs.length ≤ 150) : Rows (sortR rs) := ⟨sortR_srt d, fun r hr => hl r ((sortR_perm rs).mem_iff.mp hr), by rw [(sortR_perm rs).length_eq]; exact hn⟩
theorem nat_mod (c m : Int) (hm : 0 < m) : ∃ n : Nat, c % m = n ∧ (n : Int) < m := ⟨(c % m).toNat, (Int.toNat_of_nonneg (emod_nn c hm)).symm, by rw [Int.toNat_of_nonneg (emod_nn c hm)]; exact Int.emod_lt_of_pos c hm⟩
end Mine

set_option autoImplicit false
set_option linter.all false
set_option maxRecDepth 100000
namespace Mine
open PySem PySem.W PyProof.Rows
section
variable {G : Gl}
theorem name_srt {rs rs' : List Row} (p : rs'.Perm rs) (s : rs'.Pairwise fun a b => nameLt b a = false) (d : Dst rs) : Srt rs' :=
  srt_of (d.perm p.symm) (s.imp fun {a b} h q => by unfold nameLt at h; rw [decide_eq_false_iff_not] at h; exact h q)
theorem c_name_of (FA : A_name_of G) {r : Rw} (hd : 0 < G.d) : Pure G "name_of" [RowV r] (.str r.1) := pure_of FA rfl hd (ws_ret (ev_row0 (r := r) (ev_var 0 rfl)) (.id _))
theorem c_built_of (FC : A_common G) (FG : A_grouped G) (FB : A_built G) (FO : A_name_of G) (FA : A_built_of G) {f : Nat} {rs : List Rw} (d : Dst rs) (hg : Good f (sortR rs)) (hd : f + 3 ≤ G.d) : Pure G "built_of" [.lst (rs.map RowV)] (treeV f (sortR rs)) := by
  have hn := hg.num
  rw [(sortR_perm rs).length_eq] at hn
  exact pure_of FA rfl (by first | exact Nat.le_trans (by decide) hd | exact Nat.le_trans (by decide) hG | (exact a588 hd)) (ws_ret (ev_call (c_built f (G := G.dn) FC FG FB hg (by first | exact dl hd | exact dl0 hd | (show f + 2 ≤ G.d - 1; (exact a589 hd)))) (evl_cons (ev_sortedK (G := G.dn) (z := .lst ((sortR rs).map RowV)) (FO.obj.imp fun _ q => q.imp fun _ q => ⟨q.1, q.2.1, q.2.2.1⟩) (fun r _ => c_name_of (G := G.dn.dn) FO (by show 0 < G.d - 1 - 1; (exact a590 hd))) (by first | exact dl hd | exact dl0 hd | (show 0 < G.d - 1; (exact a591 hd))) (ev_var 0 rfl) (by first | exact Nat.le_trans (by decide) hd | exact Nat.le_trans (by decide) hG | (exact a466 hn)) fun rs' hp hs => by rw [srt_unique (sortR_srt d) (name_srt hp hs d) ((sortR_perm rs).trans hp.symm)]) evl_nil)) (.id _))
end
end Mine

set_option autoImplicit false
set_option linter.all false
set_option maxRecDepth 100000
namespace Mine
open PySem PySem.W PyProof.Rows
def foundV (n : List Nat) (rs : List Rw) : V := match rs.find? (fun r => r.1 == n) with | some r => .int r.2 | none => .none
theorem take_snoc {α : Type} {l : List α} {i : Nat} {r : α} (h : l[i]? = some r) : l.take (i + 1) = l.take i ++ [r] := by
  obtain ⟨hi, e⟩ := List.getElem?_eq_some_iff.mp h
  rw [List.take_succ_eq_append_getElem hi, e]
theorem eq_parts {k : Nat} {a n : List Nat} (h : a.take k = n.take k) : (a == n) = (decide ((a.drop k).take 1 = (n.drop k).take 1) && (a.drop (k + 1) == n.drop (k + 1))) := by
  rw [Bool.eq_iff_iff, Bool.and_eq_true, beq_iff_eq, beq_iff_eq, decide_eq_true_eq]
  constructor
  · rintro rfl; exact ⟨rfl, rfl⟩
  · rintro ⟨h1, h2⟩; rw [← parts k a, ← parts k n, h, h1, h2]
theorem foundV_part {k : Nat} {n : List Nat} : ∀ {rs : List Rw}, (∀ r ∈ rs, r.1.take k = n.take k) → foundV n rs = foundV (n.drop (k + 1)) ((rs.filter fun r => decide (sg k r = (n.drop k).take 1)).map (cutR k))
  | [], _ => rfl
  | r :: rs, h => by
    have ih := foundV_part (k := k) (n := n) (rs := rs) fun q hq => h q (by simp [hq])
    have e := eq_parts (h r (by simp))
    have es : sg k r = (r.1.drop k).take 1 := rfl
    unfold foundV at ih ⊢
    rw [List.find?_cons, List.filter_cons]
    by_cases q : sg k r = (n.drop k).take 1
    · rw [if_pos (decide_eq_true q), List.map_cons, List.find?_cons]
      rw [← es, decide_eq_true q, Bool.true_and] at e
      rw [e]
      show (match (match (r.1.drop (k + 1) == n.drop (k + 1)) with | true => some r | false => _) with | some r => _ | none => _) = (match (match (r.1.drop (k + 1) == n.drop (k + 1)) with | true => some (cutR k r) | false => _) with | some r => _ | none => _)
      cases (r.1.drop (k + 1) == n.drop (k + 1)) with
      | true => rfl
      | false => exact ih
    · rw [if_neg (by simpa using q)]
      rw [← es, decide_eq_false q, Bool.false_and] at e
      rw [e]; exact ih
theorem foundV_none {n : List Nat} {rs : List Rw} (h : ∀ r ∈ rs, r.1 ≠ n) : foundV n rs = .none := by
  unfold foundV
  rw [List.find?_eq_none.mpr fun r hr => by simpa using h r hr]
def pickG (s : List Nat) (gs : List (List Nat × List Rw)) : List Rw := match gs.find? (fun g => g.1 == s) with | some g => g.2 | none => []
theorem pickG_eq {k : Nat} {rs : List Rw} (P : Pre k rs) (s : List Nat) : pickG s (groups k rs) = rs.filter fun r => decide (sg k r = s) := by
  unfold pickG
  cases h : (groups k rs).find? (fun g => g.1 == s) with
  | some g =>
    have hs : g.1 = s := eq_of_beq (List.find?_some (p := fun g : List Nat × List Rw => g.1 == s) h)
    rw [← hs]; exact (filter_group P (List.mem_of_find?_eq_some h)).symm
  | none =>
    refine (List.filter_eq_nil_iff.mpr fun r hr => ?_).symm
    rw [← groups_flat k rs] at hr
    obtain ⟨g, hg, hrg⟩ := List.mem_flatMap.mp hr
    have := List.find?_eq_none.mp h g hg
    rw [(groups_mem k rs g hg).2 r hrg]
    simpa using this
section
variable {G : Gl}
theorem c_branch_at (FA : A_branch_at G) {f k : Nat} {gs : List (List Nat × List Rw)} {s : List Nat} (hd : 0 < G.d) : Pure G "branch_at" [.tup (gs.map (brV f k)), .str s] (treeV f ((pickG s gs).map (cutR k))) := by
  refine pure_of FA rfl hd (ws_for (fun i ρ σ => (∀ g ∈ gs.take i, (g.1 == s) = false) ∧ ∃ u v, ρ = [.tup (gs.map (brV f k)), .str s, u, v]) (ev_var 0 rfl) rfl ⟨fun g hg => (by rw [List.take_zero] at hg; cases hg), .unb, .unb, rfl⟩ ?_ ?_)
  · rintro i ρ σ x hx ⟨h0, u, v, rfl⟩
    rw [List.getElem?_map] at hx
    obtain ⟨g, hg, rfl⟩ := Option.map_eq_some_iff.mp hx
    refine ⟨_, asg_tup2 2 3, ws_if (tr_cmp (ev_var 2 rfl) (ev_var 1 rfl) cm_eqs) (fun h => ws_ret (ev_var 3 rfl (treeV_ok _ _)) ?_) fun h => ws_nil (ws_nil ⟨?_, _, _, rfl⟩)⟩
    · have e : gs.find? (fun g => g.1 == s) = some g := by
        obtain ⟨hi, e⟩ := List.getElem?_eq_some_iff.mp hg
        conv => lhs; rw [← List.take_append_drop i gs]
        rw [List.find?_append, List.find?_eq_none.mpr (fun x hx => by rw [h0 x hx]; exact Bool.false_ne_true), Option.none_or, List.drop_eq_getElem_cons hi, e, List.find?_cons, h]
      show Res σ _ (treeV f ((pickG s gs).map (cutR k)))
      unfold pickG
      rw [e]; exact .id _
    · intro g' hg'
      rw [take_snoc hg] at hg'
      rcases List.mem_append.mp hg' with q | q
      · exact h0 g' q
      · rw [List.mem_singleton] at q; subst q; exact h
  · rintro ρ σ ⟨h0, u, v, rfl⟩
    rw [List.length_map, List.take_length] at h0
    refine ws_ret ev_none ?_
    have e : pickG s gs = [] := by unfold pickG; rw [List.find?_eq_none.mpr fun x hx => by rw [h0 x hx]; exact Bool.false_ne_true]
    show Res σ .none (treeV f ((pickG s gs).map (cutR k)))
    rw [e, List.map_nil, treeV_nil]; exact .id _
theorem c_found (FR : A_rest G) (FB : A_branch_at G) (FA : A_found G) {f : Nat} {rs : List Rw} (hg : Good f rs) {n : List Nat} (hn : n.length ≤ 1000) (hd : 2 ≤ G.d) : Pure G "found" [treeV f rs, .str n] (foundV n rs) := by
  have d1 : 0 < G.dn.d := by show 0 < G.d - 1; (exact a594 hd)
  refine pure_of FA rfl (by (exact a399 hd)) (ws_while (fun m ρ σ => ∃ rs' n' u, Good m rs' ∧ n'.length ≤ 1000 ∧ foundV n' rs' = foundV n rs ∧ ρ = [treeV m rs', .str n', u]) f ⟨rs, n, .unb, hg, hn, rfl, rfl⟩ ?_)
  rintro m ρ σ ⟨rs', n', u, hg', hn', hz, rfl⟩
  by_cases hnil : rs' = []
  · subst hnil
    rw [treeV_nil]
    exact ⟨_, tr_cmp (ev_var 0 rfl) ev_none (cm_isnot cm_is_none), nofun, fun _ => ws_ret ev_none (show Res σ .none (foundV n rs) from hz ▸ .id _)⟩
  match m, rs', hg', hz, hnil with
  | 0, rs', hg', hz, hnil => exact absurd hg'.zero hnil
  | m + 1, [], hg', hz, hnil => exact absurd rfl hnil
  | m + 1, [r], hg', hz, hnil =>
    have hr := hg'.len r (by simp)
    refine ⟨_, tr_cmp (ev_var 0 rfl) ev_none (cm_isnot (cm_is_nn rfl)), fun _ => ws_if (tr_cmp (ev_idxt (ev_var 0 rfl) ev_int (by decide) (by decide) rfl) (ev_lit (lit "leaf")) cm_eqs) (fun _ => ws_if (tr_cmp (ev_idxt (ev_var 0 rfl) ev_int (by decide) (by decide) rfl) (ev_var 1 rfl) cm_eqs) (fun h => ws_ret (ev_idxt (ev_var 0 rfl) ev_int (by decide) (by decide) rfl) ?_) fun h => ws_nil (ws_ret ev_none ?_)) (fun h => absurd h (by rw [beq_self_eq_true]; decide)), nofun⟩
    · show Res σ _ (foundV n rs)
      rw [← hz]; unfold foundV; rw [List.find?_cons, h]; exact .id _
    · show Res σ _ (foundV n rs)
      rw [← hz]; unfold foundV; rw [List.find?_cons, h]; exact .id _
  | m + 1, a :: b :: rs', hg', hz, hnil =>
    clear hnil
    have h2 : 2 ≤ (a :: b :: rs').length := by simp
    have htv : treeV (m + 1) (a :: b :: rs') = .tup [.str (lit "fork"), .str (a.1.take (shareN (a :: b :: rs'))), .tup ((groups (shareN (a :: b :: rs')) (a :: b :: rs')).map (brV m (shareN (a :: b :: rs'))))] := rfl
    have hka : shareN (a :: b :: rs') ≤ a.1.length := by
      obtain ⟨z0, hz0⟩ : ∃ z, (a :: b :: rs').getLast? = some z := ⟨_, List.getLast?_eq_some_getLast (by simp)⟩
      rw [shareN_eq hz0]; exact (lcp_le a.1 z0.1).1
    have ha : a ∈ a :: b :: rs' := by simp
    generalize a :: b :: rs' = ws at *
    rw [htv]
    have hal := hg'.len a ha
    have hfu := hg'.fuel
    have P := srt_pre hg'.srt
    have hgg : ∀ g ∈ groups (shareN ws) ws, Good m (g.2.map (cutR (shareN ws))) := fun g h => hg'.group h2 h
    generalize shareN ws = k at *
    have hkl : (a.1.take k).length = k := by rw [List.length_take]; (exact a603 hka)
    refine ⟨_, tr_cmp (ev_var 0 rfl) ev_none (cm_isnot (cm_is_nn rfl)), fun _ => ws_if (tr_cmp (ev_idxt (ev_var 0 rfl) ev_int (by decide) (by decide) rfl) (ev_lit (lit "leaf")) cm_eqs) (fun h => absurd h (by decide +kernel)) fun _ => ws_nil ?_, nofun⟩
    refine ws_asg 2 (ev_call (c_rest (G := G.dn) (a := n') (b := a.1.take k) FR (by (exact hn')) (by (exact a607 hfu hkl hal hka)) d1) (evl_cons (ev_var 1 rfl) (evl_cons (ev_idxt (ev_var 0 rfl) ev_int (by decide) (by decide) rfl) evl_nil))) ?_
    cases hp : (a.1.take k).isPrefixOf n' with
    | false =>
      refine ws_if (tr_cmp (ev_var 2 rfl) ev_none cm_is_none) (fun _ => ws_ret ev_none ?_) nofun
      have : foundV n' ws = .none := foundV_none fun r hr e => by
        have h1 : (a.1.take k).isPrefixOf n' = true := by
          rw [List.isPrefixOf_iff_prefix, ← P.pre r hr a ha, e]; exact List.take_prefix ..
        rw [hp] at h1; cases h1
      show Res σ .none (foundV n rs)
      rw [← hz, this]; exact .id _
    | true =>
      have hpt : n'.take k = a.1.take k := by
        rw [List.isPrefixOf_iff_prefix, List.prefix_iff_eq_take, hkl] at hp; exact hp.symm
      refine ws_if (tr_cmp (ev_var 2 rfl) ev_none (cm_is_nn rfl)) nofun fun _ => ws_nil ?_
      rw [hkl]
      refine ws_asg 0 (ev_call (c_branch_at (G := G.dn) (f := m) (k := k) (gs := groups k ws) (s := (n'.drop k).take 1) FB d1) (evl_cons (ev_idxt (ev_var 0 rfl) ev_int (by decide) (by decide) rfl) (evl_cons (Ev.to (ev_slc (a := n'.drop k) (ev_var 2 rfl) evo_none (evo_some ev_int) (by rw [szL, List.length_drop]; (exact a608 hn'))) (congrArg V.str (slice_take _ 1))) evl_nil))) (ws_asg 1 (ev_slc (a := n'.drop k) (ev_var 2 rfl) (evo_some ev_int) evo_none (by rw [szL, List.length_drop]; (exact a608 hn'))) (ws_nil ⟨m, Nat.lt_succ_self m, (pickG ((n'.drop k).take 1) (groups k ws)).map (cutR k), n'.drop (k + 1), .str (n'.drop k), ?_, ?_, ?_, ?_⟩))
      · unfold pickG
        cases h : (groups k ws).find? (fun g => g.1 == (n'.drop k).take 1) with
        | some g => exact hgg g (List.mem_of_find?_eq_some h)
        | none => exact ⟨.nil, fun r hr => (nomatch hr), Nat.zero_le _, by (exact a559 hfu)⟩
      · rw [List.length_drop]; (exact a609 hn')
      · rw [← hz, foundV_part (k := k) (n := n') (rs := ws) fun r hr => (P.pre r hr a ha).trans hpt.symm, pickG_eq P]
      · rw [show slice (n'.drop k) (some 1) none = n'.drop (k + 1) from (slice_drop _ 1).trans (by rw [List.drop_drop])]; rfl
def othersR (n : List Nat) (rs : List Rw) : List Rw := rs.filter fun r => !(r.1 == n)
end
end Mine

set_option autoImplicit false
set_option linter.all false
set_option maxRecDepth 100000
namespace Mine
open PySem PySem.W PyProof.Rows
section
variable {G : Gl}
theorem c_need_free (FA : A_need_free G) (hsy : ∃ o, G.B.get? sysModules = some o) {os ts : List Rw} (hn : ts.length ≤ 10000) (hd : 0 < G.d) (h : ∀ r ∈ os, r.1 ∉ ts.map (·.1)) : Pure G "need_free" [.lst (os.map RowV), .lst (ts.map RowV)] .none := by
  refine pure_of FA rfl hd (ws_fill (G := G.dn) hsy hn fun u v => ?_)
  refine ws_for (fun i ρ σ => ∃ u v, ρ = [.lst (os.map RowV), .lst (ts.map RowV), .obj (dictP G.dn (ts.map (·.1))), u, v]) (ev_var 0 rfl) rfl ⟨u, v, rfl⟩ ?_ fun ρ σ _ => ws_nil (by exact rfl)
  rintro i ρ σ y hy ⟨u, v, rfl⟩
  rw [List.getElem?_map] at hy
  obtain ⟨r, hr, rfl⟩ := Option.map_eq_some_iff.mp hy
  exact ⟨_, asg_tup2 3 4, ws_if (tr_in_dict (ev_var 3 rfl) (ev_var 2 rfl)) (fun e => absurd (of_decide_eq_true e) (h r (List.mem_of_getElem? hr))) fun _ => ws_nil (ws_nil ⟨_, _, rfl⟩)⟩
theorem first_in {α : Type} (p : α → Prop) [DecidablePred p] : ∀ {l : List α}, (∃ r ∈ l, p r) → ∃ (j : Nat) (r : α), l[j]? = some r ∧ p r ∧ ∀ i r', i < j → l[i]? = some r' → ¬ p r'
  | [], ⟨r, h, _⟩ => nomatch h
  | a :: l, h => by
    by_cases ha : p a
    · exact ⟨0, a, rfl, ha, fun i r' hi => absurd hi (Nat.not_lt_zero i)⟩
    · obtain ⟨r, hr, q⟩ := h
      have hr : r ∈ l := (List.mem_cons.mp hr).resolve_left (by rintro rfl; exact ha q)
      obtain ⟨j, r₁, h1, h2, h3⟩ := first_in p ⟨r, hr, q⟩
      refine ⟨j + 1, r₁, h1, h2, fun i r' hi hr' => ?_⟩
      cases i with
      | zero => cases hr'; exact ha
      | succ i => exact h3 i r' (by first | exact Nat.le_trans (by decide) hd | exact Nat.le_trans (by decide) hG | (exact a418 hi)) hr'
theorem z_need_free (FA : A_need_free G) (hsy : ∃ o, G.B.get? sysModules = some o) {X : Addr} (hX : XC G "Taken" X) {os ts : List Rw} (hn : ts.length ≤ 10000) (hd : 0 < G.d) (h : ∃ r ∈ os, r.1 ∈ ts.map (·.1)) : Rz G "need_free" [.lst (os.map RowV), .lst (ts.map RowV)] X := by
  obtain ⟨j, r, hj, hr, hb⟩ := first_in (fun r : Rw => r.1 ∈ ts.map (·.1)) h
  refine rz_of FA rfl hd (wr_seqs [_, _] (ws_fill (G := G.dn) hsy hn fun u v => ws_nil ⟨rfl, ?_⟩))
  have hjl : j < (os.map RowV).length := by rw [List.length_map]; exact (List.getElem?_eq_some_iff.mp hj).1
  refine wr_for (fun i ρ σ => ∃ u v, ρ = [.lst (os.map RowV), .lst (ts.map RowV), .obj (dictP G.dn (ts.map (·.1))), u, v]) j hjl (ev_var 0 rfl) rfl ⟨u, v, rfl⟩ ?_ ?_
  · rintro i ρ σ y hi hy ⟨u, v, rfl⟩
    rw [List.getElem?_map] at hy
    obtain ⟨r', hr', rfl⟩ := Option.map_eq_some_iff.mp hy
    exact ⟨_, asg_tup2 3 4, ws_if (tr_in_dict (ev_var 3 rfl) (ev_var 2 rfl)) (fun e => absurd (of_decide_eq_true e) (hb i r' hi hr')) fun _ => ws_nil (ws_nil ⟨_, _, rfl⟩)⟩
  · rintro ρ σ y hy ⟨u, v, rfl⟩
    rw [List.getElem?_map, hj] at hy
    cases hy
    exact ⟨_, asg_tup2 3 4, wr_if (tr_in_dict (ev_var 3 rfl) (ev_var 2 rfl)) (fun _ => wr_raise hX) fun e => absurd hr (of_decide_eq_false e)⟩
end
end Mine

set_option autoImplicit false
set_option linter.all false
set_option maxRecDepth 100000
namespace Mine
open PySem PySem.W PyProof.Rows
def stayR (b : List Nat) (rs : List Rw) : List Rw := rs.filter fun r => !b.isPrefixOf r.1
def goneR (b : List Nat) (rs : List Rw) : List Rw := (rs.filter fun r => b.isPrefixOf r.1).map fun r => (r.1.drop b.length, r.2)
theorem stayR_snoc (b : List Nat) (rs : List Rw) (r : Rw) : stayR b (rs ++ [r]) = stayR b rs ++ if b.isPrefixOf r.1 then [] else [r] := by
  unfold stayR; rw [List.filter_append]; cases h : b.isPrefixOf r.1 <;> simp [h]
theorem goneR_snoc (b : List Nat) (rs : List Rw) (r : Rw) : goneR b (rs ++ [r]) = goneR b rs ++ if b.isPrefixOf r.1 then [(r.1.drop b.length, r.2)] else [] := by
  unfold goneR; rw [List.filter_append]; cases h : b.isPrefixOf r.1 <;> simp [h]
theorem pre_eq (b a : List Nat) : b.isPrefixOf a = (a.take b.length == b) := by
  rw [Bool.eq_iff_iff, List.isPrefixOf_iff_prefix, beq_iff_eq, List.prefix_iff_eq_take]
  exact ⟨Eq.symm, Eq.symm⟩
theorem stay_rows {b : List Nat} {rs : List Rw} (R : Rows rs) : Rows (stayR b rs) :=
  ⟨R.srt.filter _, fun r hr => R.len r (List.mem_filter.mp hr).1, Nat.le_trans (List.length_filter_le ..) R.num⟩
theorem gone_rows {b : List Nat} {rs : List Rw} (R : Rows rs) : Rows (goneR b rs) := by
  refine ⟨?_, fun r hr => ?_, ?_⟩
  · unfold goneR Srt
    rw [List.pairwise_map]
    refine List.Pairwise.imp_of_mem ?_ (R.srt.filter fun r => b.isPrefixOf r.1)
    intro x y hx hy l
    have ex := (List.mem_filter.mp hx).2
    have ey := (List.mem_filter.mp hy).2
    rw [List.isPrefixOf_iff_prefix] at ex ey
    obtain ⟨s, hs⟩ := ex
    obtain ⟨t, ht⟩ := ey
    rw [← hs, ← ht] at l ⊢
    simp only [List.drop_left]
    exact lt_append.mp l
  · obtain ⟨q, hq, rfl⟩ := List.mem_map.mp hr
    have := R.len q (List.mem_filter.mp hq).1
    show (q.1.drop _).length ≤ 40
    rw [List.length_drop]; (exact a601 this)
  · unfold goneR; rw [List.length_map]; exact Nat.le_trans (List.length_filter_le ..) R.num
section
variable {G : Gl}
theorem c_parted (FR : A_rest G) (FG : A_gather G) (FN : A_names G) (FP : A_parted G) {rs : List Rw} (R : Rows rs) {b : List Nat} (hb : b.length ≤ 40) (hd : 60 ≤ G.d) : Pure G "parted" [treeV 50 rs, .str b] (.tup [.lst ((stayR b rs).map RowV), .lst ((goneR b rs).map RowV)]) := by
  have hn := R.num
  refine pure_of FP rfl (by first | exact Nat.le_trans (by decide) hd | exact Nat.le_trans (by decide) hG | (first | lia | omega)) (ws_new 2 fun p _ => ws_new 3 fun q hq => ?_)
  have hpq : p ≠ q := by rintro rfl; rw [Ow.set_self] at hq; cases hq
  refine ws_for (fun i ρ σ => σ p = some (.lst ((stayR b (rs.take i)).map RowV)) ∧ σ q = some (.lst ((goneR b (rs.take i)).map RowV)) ∧ ∃ u v w, ρ = [treeV 50 rs, .str b, .ref p, .ref q, u, v, w]) (ev_call (c_names (G := G.dn) FG FN (R.good (f := 50) (by decide) (by decide)) (by first | exact dl hd | exact dl0 hd | (show 52 ≤ G.d - 1; (first | lia | omega)))) (evl_cons (ev_var 0 rfl (treeV_ok _ _)) evl_nil)) rfl ⟨by rw [Ow.set_ne _ _ hpq, Ow.set_self]; rfl, by rw [Ow.set_self]; rfl, _, _, _, rfl⟩ ?_ ?_
  · rintro i ρ σ x hx ⟨hp1, hq1, u, v, w, rfl⟩
    rw [List.getElem?_map] at hx
    obtain ⟨r, hr, rfl⟩ := Option.map_eq_some_iff.mp hx
    have hrl := R.len r (List.mem_of_getElem? hr)
    have htk : rs.take (i + 1) = rs.take i ++ [r] := by
      obtain ⟨hi, e⟩ := List.getElem?_eq_some_iff.mp hr
      rw [List.take_succ_eq_append_getElem hi, e]
    have hl1 : (stayR b (rs.take i)).length ≤ 150 := Nat.le_trans (List.length_filter_le ..) (by rw [List.length_take]; (exact a606 hn))
    have hl2 : (goneR b (rs.take i)).length ≤ 150 := by unfold goneR; rw [List.length_map]; exact Nat.le_trans (List.length_filter_le ..) (by rw [List.length_take]; (exact a606 hn))
    refine ⟨_, asg_tup2 4 5, ws_asg 6 (ev_call (c_rest (G := G.dn) FR (by first | exact Nat.le_trans (by decide) hd | exact Nat.le_trans (by decide) hG | (exact a379 hrl)) (by first | exact Nat.le_trans (by decide) hd | exact Nat.le_trans (by decide) hG | (exact a379 hb)) (by first | exact dl hd | exact dl0 hd | (show 0 < G.d - 1; (first | lia | omega)))) (evl_cons (ev_var 4 rfl) (evl_cons (ev_var 1 rfl) evl_nil))) ?_⟩
    cases hpf : b.isPrefixOf r.1 with
    | true =>
      refine ws_if (tr_cmp (ev_var 6 rfl) ev_none (cm_is_nn rfl)) nofun fun _ => ws_append (ev_var 3 rfl) hq1 (ev_tuple (evl_cons (ev_var 6 rfl) (evl_cons (ev_var 5 rfl) evl_nil)) sz2) (by rw [List.length_map, szL]; (exact a391 hl2)) (ws_nil (ws_nil ⟨?_, ?_, _, _, _, rfl⟩))
      · rw [Ow.set_ne _ _ hpq, htk, stayR_snoc, if_pos hpf, List.append_nil]; exact hp1
      · rw [Ow.set_self, htk, goneR_snoc, if_pos hpf, List.map_append]; rfl
    | false =>
      refine ws_if (tr_cmp (ev_var 6 rfl) ev_none cm_is_none) (fun _ => ws_append (ev_var 2 rfl) hp1 (ev_tuple (evl_cons (ev_var 4 rfl) (evl_cons (ev_var 5 rfl) evl_nil)) sz2) (by rw [List.length_map, szL]; (exact a391 hl1)) (ws_nil (ws_nil ⟨?_, ?_, _, _, _, rfl⟩))) nofun
      · rw [Ow.set_self, htk, stayR_snoc, hpf, List.map_append]; rfl
      · rw [Ow.set_ne _ _ hpq.symm, htk, goneR_snoc, hpf, if_neg Bool.false_ne_true, List.append_nil]; exact hq1
  · rintro ρ σ ⟨hp1, hq1, u, v, w, rfl⟩
    rw [List.length_map, List.take_length] at hp1 hq1
    exact ws_ret (ev_tuple (evl_cons (ev_var 2 rfl) (evl_cons (ev_var 3 rfl) evl_nil)) sz2) (.tup (.cons (.frz hp1) (.cons (.frz hq1) .nil)))
end
end Mine

set_option autoImplicit false
set_option linter.all false
set_option maxRecDepth 100000
namespace Mine
open PySem PySem.W PyProof.Rows
theorem flat_len {α : Type} (F : α → List Rw) (w : α → Nat) : ∀ (gs : List α), (∀ g ∈ gs, (F g).length ≤ w g) → (gs.flatMap F).length ≤ (gs.map w).sum
  | [], _ => Nat.le_refl _
  | g :: gs, h => by
    rw [List.flatMap_cons, List.length_append, List.map_cons, List.sum_cons]
    exact Nat.add_le_add (h g (by simp)) (flat_len F w gs fun x hx => h x (by simp [hx]))
theorem groups_sum (k : Nat) (rs : List Rw) : ((groups k rs).map fun g => g.2.length).sum = rs.length := by
  conv => rhs; rw [← groups_flat k rs]
  rw [List.length_flatMap]
theorem knotsL_len : ∀ (f : Nat) (rs : List Rw), (knotsL f rs).length ≤ rs.length + f * rs.length
  | 0, _ => by simp [knotsL]
  | _ + 1, [] => by simp [knotsL]
  | _ + 1, [r] => by simp [knotsL]
  | f + 1, a :: b :: rs => by
    have ih := knotsL_len f
    unfold knotsL
    have h2 : 2 ≤ (a :: b :: rs).length := by simp
    generalize a :: b :: rs = ws at *
    have h1 := flat_len (fun g : List Nat × List Rw => (knotsL f (g.2.map (cutR (shareN ws)))).map (preR (a.1.take (shareN ws) ++ g.1))) (fun g => g.2.length + f * g.2.length) (groups (shareN ws) ws) fun g hg => by
      rw [List.length_map]; have := ih (g.2.map (cutR (shareN ws))); rwa [List.length_map] at this
    have h3 : ∀ gs : List (List Nat × List Rw), (gs.map fun g => g.2.length + f * g.2.length).sum = (gs.map fun g => g.2.length).sum + f * (gs.map fun g => g.2.length).sum := by
      intro gs
      induction gs with
      | nil => simp
      | cons g gs ih => simp only [List.map_cons, List.sum_cons, ih, Nat.mul_add]; (first | lia | omega)
    rw [h3, groups_sum] at h1
    rw [List.length_cons, Nat.add_mul]
    (first | lia | omega)
theorem knots_le {f : Nat} {rs : List Rw} (h : Good f rs) : (knotsL f rs).length ≤ 301 * 1000 := by
  have h1 := knotsL_len f rs
  have h2 : f * rs.length ≤ 300 * 1000 := Nat.mul_le_mul h.fuel h.num
  have h3 := h.num
  (first | lia | omega)
theorem knots_pre {f : Nat} {a b : Rw} {rs : List Rw} {t : List Nat} : (knotsL (f + 1) (a :: b :: rs)).map (preR t) = (t ++ a.1.take (shareN (a :: b :: rs)), ((groups (shareN (a :: b :: rs)) (a :: b :: rs)).length : Int)) :: (groups (shareN (a :: b :: rs)) (a :: b :: rs)).flatMap fun g => (knotsL f (g.2.map (cutR (shareN (a :: b :: rs))))).map (preR (t ++ a.1.take (shareN (a :: b :: rs)) ++ g.1)) := by
  show List.map (preR t) (_ :: List.flatMap _ _) = _
  rw [List.map_cons, List.map_flatMap]
  congr 1
  congr 1
  funext g
  rw [List.map_map]
  refine List.map_congr_left fun r _ => ?_
  show ((t ++ (_ ++ r.1), r.2) : Rw) = (_ ++ r.1, r.2)
  simp only [List.append_assoc]
theorem take_flat {α : Type} {l : List α} {i : Nat} {r : α} {β : Type} (F : α → List β) (h : l[i]? = some r) : (l.take (i + 1)).flatMap F = (l.take i).flatMap F ++ F r := by
  obtain ⟨hi, e⟩ := List.getElem?_eq_some_iff.mp h
  rw [List.take_succ_eq_append_getElem hi, e, List.flatMap_append, List.flatMap_singleton]
theorem take_flat_len {α β : Type} (F : α → List β) (l : List α) (i : Nat) : ((l.take i).flatMap F).length ≤ (l.flatMap F).length := by
  conv => rhs; rw [← List.take_append_drop i l, List.flatMap_append, List.length_append]
  exact Nat.le_add_right _ _
theorem group_sign {k : Nat} {rs : List Rw} {g : List Nat × List Rw} (hg : g ∈ groups k rs) : g.1.length ≤ 1 := by
  have hm := groups_mem _ _ g hg
  obtain ⟨x, xs, hx⟩ := List.exists_cons_of_ne_nil hm.1
  rw [← hm.2 x (by rw [hx]; simp)]; unfold sg; rw [List.length_take]; (first | lia | omega)
section
variable {G : Gl}
theorem c_gather_knots : ∀ (f : Nat) {G : Gl} {rs : List Rw} {t : List Nat} {p : Addr} {acc : List V}, A_gather_knots G → Good f rs → t.length + 301 * f ≤ 200000 → acc.length + (knotsL f rs).length ≤ 10000000 → f + 1 ≤ G.d →
    Proc G "gather_knots" [treeV f rs, .str t, .ref p] p acc (acc ++ ((knotsL f rs).map (preR t)).map RowV) := by
  intro f
  have nil : ∀ {G : Gl} {t : List Nat} {p : Addr} {acc : List V}, A_gather_knots G → 0 < G.d → Proc G "gather_knots" [.none, .str t, .ref p] p acc acc := fun FA hd =>
    proc_of FA rfl hd (ws_if (tr_cmp (ev_var 0 rfl) ev_none cm_is_none) (fun _ => ws_retN (σ1_self ..)) nofun)
  induction f with
  | zero =>
    intro G rs t p acc FA hg ht hl hd
    show Proc G _ _ p acc (acc ++ [])
    rw [List.append_nil]
    exact nil FA (by first | exact Nat.le_trans (by decide) hd | exact Nat.le_trans (by decide) hG | lia | omega)
  | succ f ih =>
    intro G rs t p acc FA hg ht hl hd
    match rs, hg, hl with
    | [], hg, hl =>
      show Proc G _ _ p acc (acc ++ [])
      rw [List.append_nil]
      exact nil FA (by first | exact Nat.le_trans (by decide) hd | exact Nat.le_trans (by decide) hG | lia | omega)
    | [r], hg, hl =>
      have hr := hg.len r (by simp)
      have hl' : acc.length + 1 ≤ 10000000 := hl
      refine proc_of FA rfl (by first | exact Nat.le_trans (by decide) hd | exact Nat.le_trans (by decide) hG | lia | omega) (ws_if (tr_cmp (ev_var 0 rfl) ev_none (cm_is_nn rfl)) nofun fun _ => ws_nil (ws_if (tr_cmp (ev_idxt (ev_var 0 rfl) ev_int (by decide) (by decide) rfl) (ev_lit (lit "leaf")) cm_eqs) (fun _ => ?_) fun h => absurd h (by rw [beq_self_eq_true]; decide)))
      exact ws_append (ev_var 2 rfl) (σ1_self ..) (ev_tuple (evl_cons (ev_adds (ev_var 1 rfl) (ev_idxt (ev_var 0 rfl) ev_int (by decide) (by decide) rfl) (by rw [szL]; (first | lia | omega))) (evl_cons ev_int evl_nil)) sz2) (by rw [szL]; (first | lia | omega)) (ws_retN (Ow.set_self ..))
    | a :: b :: rs, hg, hl =>
      have h2 : 2 ≤ (a :: b :: rs).length := by simp
      have hkl := List.length_map (as := knotsL (f + 1) (a :: b :: rs)) (preR t)
      rw [← hkl] at hl
      clear hkl
      rw [knots_pre] at hl ⊢
      have htv : treeV (f + 1) (a :: b :: rs) = .tup [.str (lit "fork"), .str (a.1.take (shareN (a :: b :: rs))), .tup ((groups (shareN (a :: b :: rs)) (a :: b :: rs)).map (brV f (shareN (a :: b :: rs))))] := rfl
      rw [htv]
      have ha : a ∈ a :: b :: rs := by simp
      generalize a :: b :: rs = rs' at *
      have hal := hg.len a ha
      have hfu := hg.fuel
      have hgg : ∀ g ∈ groups (shareN rs') rs', Good f (g.2.map (cutR (shareN rs'))) := fun g h => hg.group h2 h
      have hgn : (groups (shareN rs') rs').length ≤ 1000 := Nat.le_trans (groups_len _ _) hg.num
      generalize shareN rs' = k at *
      rw [List.length_cons] at hl
      refine proc_of FA rfl (by first | exact Nat.le_trans (by decide) hd | exact Nat.le_trans (by decide) hG | lia | omega) (ws_if (tr_cmp (ev_var 0 rfl) ev_none (cm_is_nn rfl)) nofun fun _ => ws_nil (ws_if (tr_cmp (ev_idxt (ev_var 0 rfl) ev_int (by decide) (by decide) rfl) (ev_lit (lit "leaf")) cm_eqs) (fun h => absurd h (by decide +kernel)) fun _ => ws_nil ?_))
      refine ws_append (ev_var 2 rfl) (σ1_self ..) (ev_tuple (evl_cons (ev_adds (ev_var 1 rfl) (ev_idxt (ev_var 0 rfl) ev_int (by decide) (by decide) rfl) (by rw [szL, List.length_take]; (first | lia | omega))) (evl_cons (ev_lent (ev_idxt (ev_var 0 rfl) ev_int (by decide) (by decide) rfl) (by rw [List.length_map]; (first | lia | omega))) evl_nil)) sz2) (by rw [szL]; (first | lia | omega)) ?_
      unfold σ1
      rw [set_set]
      refine ws_for (fun i ρ σ => σ = σ1 p (acc ++ ((t ++ a.1.take k, ((groups k rs').length : Int)) :: ((groups k rs').take i).flatMap fun g => (knotsL f (g.2.map (cutR k))).map (preR (t ++ a.1.take k ++ g.1))).map RowV) ∧ ∃ v w, ρ = [.tup [.str (lit "fork"), .str (a.1.take k), .tup ((groups k rs').map (brV f k))], .str t, .ref p, v, w])
        (ev_idxt (ev_var 0 rfl) ev_int (by decide) (by decide) rfl) rfl ⟨?_, .unb, .unb, rfl⟩ ?_ ?_
      · rw [List.take_zero, List.length_map]; rfl
      · rintro i ρ σ x hx ⟨rfl, v, w, rfl⟩
        rw [List.getElem?_map] at hx
        obtain ⟨g, hgi, rfl⟩ := Option.map_eq_some_iff.mp hx
        have hgm := List.mem_of_getElem? hgi
        have hgl := group_sign hgm
        have hfl := take_flat (fun g : List Nat × List Rw => (knotsL f (g.2.map (cutR k))).map (preR (t ++ a.1.take k ++ g.1))) hgi
        have hll := take_flat_len (fun g : List Nat × List Rw => (knotsL f (g.2.map (cutR k))).map (preR (t ++ a.1.take k ++ g.1))) (groups k rs') (i + 1)
        rw [hfl, List.length_append, List.length_map] at hll
        refine ⟨_, asg_tup2 3 4, ws_proc (ih (G := G.dn) (t := t ++ a.1.take k ++ g.1) FA (hgg g hgm) ?_ ?_ (by first | exact dl hd | exact dl0 hd | (show f + 1 ≤ G.d - 1; first | lia | omega))) (evl_cons (ev_var 4 rfl (treeV_ok _ _)) (evl_cons (ev_adds (ev_adds (ev_var 1 rfl) (ev_idxt (ev_var 0 rfl) ev_int (by decide) (by decide) rfl) ?_) (ev_var 3 rfl) ?_) (evl_cons (ev_var 2 rfl) evl_nil))) (σ1_self ..) (ws_nil ⟨?_, _, _, rfl⟩)⟩
        · rw [List.length_append, List.length_append, List.length_take]; (first | lia | omega)
        · rw [List.length_append, List.length_map, List.length_cons]; (first | lia | omega)
        · rw [szL, List.length_take]; (first | lia | omega)
        · rw [szL, List.length_append, List.length_take]; (first | lia | omega)
        · unfold σ1
          rw [set_set, hfl, ← List.cons_append, List.map_append, List.append_assoc]
      · rintro ρ σ ⟨rfl, v, w, rfl⟩
        refine ws_nil ?_
        rw [List.length_map, List.take_length]
        exact σ1_self ..
theorem pre_nil (rs : List Rw) : rs.map (preR []) = rs := by
  conv => rhs; rw [← List.map_id rs]
  rfl
theorem n_knots (FA : A_gather_knots G) (FN : A_knots G) {f : Nat} {rs : List Rw} (hg : Good f rs) (hd : f + 2 ≤ G.d) : New G "knots" [treeV f rs] ((knotsL f rs).map RowV) := by
  have hfu := hg.fuel
  have hn := knots_le hg
  refine new_of FN rfl (by first | exact Nat.le_trans (by decide) hd | exact Nat.le_trans (by decide) hG | lia | omega) (ws_new 1 fun a _ => ws_proc (c_gather_knots f (G := G.dn) (t := []) FA hg (by show 0 + _ ≤ _; (first | lia | omega)) (by show 0 + _ ≤ _; (first | lia | omega)) (by first | exact dl hd | exact dl0 hd | (show f + 1 ≤ G.d - 1; first | lia | omega))) (evl_cons (ev_var 0 rfl (treeV_ok _ _)) (evl_cons (ev_lit []) (evl_cons (ev_var 1 rfl) evl_nil))) (Ow.set_self ..) (ws_ret (ev_var 1 rfl) ⟨a, rfl, ?_⟩))
  rw [Ow.set_self, pre_nil]; rfl
end
end Mine

set_option autoImplicit false
set_option linter.all false
set_option maxRecDepth 100000
namespace Mine
open PySem PySem.W PyProof.Rows
structure CP (G : Gl) : Prop where
  common : A_common G
  rest : A_rest G
  gather : A_gather G
  names : A_names G
  name_of : A_name_of G
  grouped : A_grouped G
  built : A_built G
  built_of : A_built_of G
  branch_at : A_branch_at G
  found : A_found G
  put : A_put G
  without : A_without G
  under : A_under G
  many : A_many G
  parted : A_parted G
  need_free : A_need_free G
  cut : A_cut G
  renamed : A_renamed G
  moved : A_moved G
  copied : A_copied G
  sys : ∃ o, G.B.get? sysModules = some o
theorem CP.dn {G : Gl} (C : CP G) : CP G.dn := ⟨C.1, C.2, C.3, C.4, C.5, C.6, C.7, C.8, C.9, C.10, C.11, C.12, C.13, C.14, C.15, C.16, C.17, C.18, C.19, C.20, C.21⟩
def belowR (b : List Nat) (rs : List Rw) : List Rw := rs.filter fun r => b.isPrefixOf r.1
theorem below_rows {b : List Nat} {rs : List Rw} (R : Rows rs) : Rows (belowR b rs) :=
  ⟨R.srt.filter _, fun r hr => R.len r (List.mem_filter.mp hr).1, Nat.le_trans (List.length_filter_le ..) R.num⟩
theorem put_dst {n : List Nat} {v : Int} {rs : List Rw} (h : Srt rs) : Dst (othersR n rs ++ [(n, v)]) := by
  unfold Dst
  rw [List.pairwise_append]
  refine ⟨(h.dst).filter _, List.pairwise_singleton .., fun a ha b hb => ?_⟩
  rw [List.mem_singleton] at hb; subst hb
  have := (List.mem_filter.mp ha).2
  simpa using this
theorem put_good {n : List Nat} {v : Int} {rs : List Rw} (R : Rows rs) (hn : n.length ≤ 40) : Good 50 (sortR (othersR n rs ++ [(n, v)])) := by
  refine ⟨sortR_srt (put_dst R.srt), fun r hr => ?_, ?_, by decide⟩
  · rcases List.mem_append.mp ((sortR_perm _).mem_iff.mp hr) with q | q
    · have := R.len r (List.mem_filter.mp q).1; (exact a371 this)
    · rw [List.mem_singleton] at q; subst q; show n.length < 50; (exact a371 hn)
  · have := R.num
    have h2 : (othersR n rs).length ≤ rs.length := List.length_filter_le ..
    rw [(sortR_perm _).length_eq, List.length_append]; show _ + 1 ≤ _; (exact a373 h2 this)
theorem others_good {n : List Nat} {rs : List Rw} (R : Rows rs) : Good 50 (othersR n rs) :=
  have h2 : (othersR n rs).length ≤ rs.length := List.length_filter_le ..
  ⟨R.srt.filter _, fun r hr => by have := R.len r (List.mem_filter.mp hr).1; (exact a371 this), by have := R.num; (exact a372 h2 this), by decide⟩
theorem foundV_some {n : List Nat} {rs : List Rw} (h : ∃ r ∈ rs, r.1 = n) : ∃ v, foundV n rs = .int v := by
  unfold foundV
  cases q : rs.find? (fun r => r.1 == n) with
  | some r => exact ⟨_, rfl⟩
  | none => obtain ⟨r, hr, e⟩ := h; exact absurd (beq_iff_eq.mpr e) (by simpa using List.find?_eq_none.mp q r hr)
def freshR (b o : List Nat) (rs : List Rw) : List Rw := (goneR b rs).map fun r => (o ++ r.1, r.2)
structure Two (st fr : List Rw) : Prop where
  st : Rows st
  srt : Srt fr
  len : ∀ r ∈ fr, r.1.length ≤ 80
  num : fr.length ≤ 150
theorem fresh_two {st rs : List Rw} {b o : List Nat} (S : Rows st) (R : Rows rs) (ho : o.length ≤ 40) : Two st (freshR b o rs) := by
  have g := gone_rows (b := b) R
  refine ⟨S, ?_, fun r hr => ?_, by unfold freshR; rw [List.length_map]; exact g.num⟩
  · unfold freshR Srt
    rw [List.pairwise_map]
    exact g.srt.imp fun h => lt_append.mpr h
  · obtain ⟨q, hq, rfl⟩ := List.mem_map.mp hr
    have := g.len q hq
    show (o ++ q.1).length ≤ 80
    rw [List.length_append]; (exact a375 ho this)
section
variable {st fr : List Rw}
theorem Two.dst (T : Two st fr) (h : ∀ r ∈ fr, r.1 ∉ st.map (·.1)) : Dst (st ++ fr) := by
  unfold Dst
  rw [List.pairwise_append]
  exact ⟨T.st.srt.dst, T.srt.dst, fun a ha b hb e => h b hb (e ▸ List.mem_map_of_mem (f := (·.1)) ha)⟩
theorem Two.good (T : Two st fr) (h : ∀ r ∈ fr, r.1 ∉ st.map (·.1)) : Good 100 (sortR (st ++ fr)) := by
  refine ⟨sortR_srt (T.dst h), fun r hr => ?_, ?_, by decide⟩
  · rcases List.mem_append.mp ((sortR_perm _).mem_iff.mp hr) with q | q
    · have := T.st.len r q; (exact a374 this)
    · have := T.len r q; (exact a376 this)
  · have h1 := T.st.num
    have h2 := T.num
    rw [(sortR_perm _).length_eq, List.length_append]; (exact a377 h1 h2)
end
def hit (st fr : List Rw) : Bool := !((fr.filter fun r => (st.map (·.1)).contains r.1).map RowV).isEmpty
theorem hit_yes {st fr : List Rw} (h : hit st fr = true) : ∃ r ∈ fr, r.1 ∈ st.map (·.1) := by
  refine Classical.byContradiction fun hc => ?_
  unfold hit at h
  rw [List.filter_eq_nil_iff.mpr fun r hr q => hc ⟨r, hr, List.contains_iff_mem.mp q⟩] at h
  cases h
theorem hit_no {st fr : List Rw} (h : hit st fr = false) : ∀ r ∈ fr, r.1 ∉ st.map (·.1) := fun r hr q => by
  unfold hit at h
  cases hq : fr.filter fun r => (st.map (·.1)).contains r.1 with
  | nil => exact List.filter_eq_nil_iff.mp hq r hr (List.contains_iff_mem.mpr q)
  | cons a l => rw [hq] at h; cases h
section
variable {G : Gl}
theorem c_put (C : CP G) {rs : List Rw} (R : Rows rs) {n : List Nat} {v : Int} (hn : n.length ≤ 40) (hd : 60 ≤ G.d) : Pure G "put" [treeV 50 rs, .str n, .int v] (treeV 50 (sortR (othersR n rs ++ [(n, v)]))) := by
  have hnum := R.num
  have h2 : (othersR n rs).length ≤ rs.length := List.length_filter_le ..
  have e1 : (rs.filterMap fun r => if !(r.1 == n) then some (RowV r) else none) = (othersR n rs).map RowV := by rw [filterMap_if]; rfl
  refine pure_of C.put rfl (by (exact a386 hd)) (ws_asg_comp (caps := [1]) (Fv := RowV) (ts := rs) 3 (fun r => if !(r.1 == n) then some (RowV r) else none) (ev_call (c_names (G := G.dn) C.gather C.names (R.good (f := 50) (by decide) (by decide)) (by show 52 ≤ G.d - 1; (exact a388 hd))) (evl_cons (ev_var 0 rfl (treeV_ok _ _)) evl_nil)) rfl (by rw [szL]; (exact a391 hnum)) (fun r hr => turn_if (tr_cmp (ev_row0 (r := r) (ev_var 1 rfl)) (ev_var 0 rfl) cm_nes) fun _ => ev_var 1 rfl) ?_)
  rw [e1]
  exact ws_ret (ev_call (c_built_of (G := G.dn) C.common C.grouped C.built C.name_of C.built_of (put_dst R.srt) (put_good R hn) (by show 53 ≤ G.d - 1; (exact a394 hd))) (evl_cons (Ev.to (ev_addl (ev_var 3 rfl) (ev_list (evl_cons (ev_tuple (evl_cons (ev_var 1 rfl) (evl_cons (ev_var 2 rfl) evl_nil)) sz2) evl_nil) sz1) (by rw [List.length_map, szL]; show _ + 1 ≤ _; (exact a395 h2 hnum))) (by rw [List.map_append]; rfl)) evl_nil)) (.id _)
theorem c_without (C : CP G) {rs : List Rw} (R : Rows rs) {n : List Nat} (hn : n.length ≤ 40) (hd : 60 ≤ G.d) (h : ∃ r ∈ rs, r.1 = n) : Pure G "without" [treeV 50 rs, .str n] (treeV 50 (othersR n rs)) := by
  have hnum := R.num
  obtain ⟨v, hv⟩ := foundV_some h
  have hf := c_found (G := G.dn) C.rest C.branch_at C.found (R.good (f := 50) (by decide) (by decide)) (n := n) (by (exact a379 hn)) (by show 2 ≤ G.d - 1; (exact a381 hd))
  rw [hv] at hf
  have e1 : (rs.filterMap fun r => if !(r.1 == n) then some (RowV r) else none) = (othersR n rs).map RowV := by rw [filterMap_if]; rfl
  refine pure_of C.without rfl (by (exact a386 hd)) (ws_if (tr_cmp (ev_call hf (evl_cons (ev_var 0 rfl (treeV_ok _ _)) (evl_cons (ev_var 1 rfl) evl_nil))) ev_none (cm_is_nn rfl)) nofun fun _ => ws_nil ?_)
  exact ws_ret (ev_call (c_built 50 (G := G.dn) C.common C.grouped C.built (others_good R) (by show 52 ≤ G.d - 1; (exact a388 hd))) (evl_cons (Ev.to (ev_comp (caps := [1]) (Fv := RowV) (ts := rs) (fun r => if !(r.1 == n) then some (RowV r) else none) (ev_call (c_names (G := G.dn) C.gather C.names (R.good (f := 50) (by decide) (by decide)) (by show 52 ≤ G.d - 1; (exact a388 hd))) (evl_cons (ev_var 0 rfl (treeV_ok _ _)) evl_nil)) rfl (by rw [szL]; (exact a391 hnum)) (fun r hr => turn_if (tr_cmp (ev_row0 (r := r) (ev_var 1 rfl)) (ev_var 0 rfl) cm_nes) fun _ => ev_var 1 rfl)) (congrArg V.lst e1)) evl_nil)) (.id _)
theorem z_without (C : CP G) {X : Addr} (hX : XC G "NotThere" X) {rs : List Rw} (R : Rows rs) {n : List Nat} (hn : n.length ≤ 40) (hd : 60 ≤ G.d) (h : ∀ r ∈ rs, r.1 ≠ n) : Rz G "without" [treeV 50 rs, .str n] X := by
  have hf := c_found (G := G.dn) C.rest C.branch_at C.found (R.good (f := 50) (by decide) (by decide)) (n := n) (by (exact a379 hn)) (by show 2 ≤ G.d - 1; (exact a381 hd))
  rw [foundV_none h] at hf
  exact rz_of C.without rfl (by (exact a386 hd)) (wr_if (tr_cmp (ev_call hf (evl_cons (ev_var 0 rfl (treeV_ok _ _)) (evl_cons (ev_var 1 rfl) evl_nil))) ev_none cm_is_none) (fun _ => wr_raise hX) nofun)
theorem cm_rest {a b : List Nat} : Cm G .IsNot (if b.isPrefixOf a then .str (a.drop b.length) else .none) .none (b.isPrefixOf a) := by
  cases h : b.isPrefixOf a
  · exact cm_isnot cm_is_none
  · exact cm_isnot (cm_is_nn rfl)
theorem c_under (C : CP G) {rs : List Rw} (R : Rows rs) {b : List Nat} (hb : b.length ≤ 40) (hd : 60 ≤ G.d) : New G "under" [treeV 50 rs, .str b] ((belowR b rs).map RowV) := by
  have hn := R.num
  refine new_of C.under rfl (by (exact a386 hd)) (ws_ret_comp (caps := [1]) (Fv := RowV) (ts := rs) (fun r => if b.isPrefixOf r.1 then some (RowV r) else none) (ev_call (c_names (G := G.dn) C.gather C.names (R.good (f := 50) (by decide) (by decide)) (by show 52 ≤ G.d - 1; (exact a388 hd))) (evl_cons (ev_var 0 rfl (treeV_ok _ _)) evl_nil)) rfl (by rw [szL]; (exact a391 hn)) (fun r hr => ?_) fun a _ => ⟨a, rfl, ?_⟩)
  · have hrl := R.len r hr
    exact turn_if (tr_cmp (ev_call (c_rest (G := G.dn) C.rest (by (exact a379 hrl)) (by (exact a379 hb)) (by show 0 < G.d - 1; (exact a407 hd))) (evl_cons (ev_row0 (r := r) (ev_var 1 rfl)) (evl_cons (ev_var 0 rfl) evl_nil))) ev_none cm_rest) fun _ => ev_var 1 rfl
  · rw [Ow.set_self, filterMap_if]; rfl
theorem c_many (C : CP G) {rs : List Rw} (R : Rows rs) {b : List Nat} (hb : b.length ≤ 40) (hd : 61 ≤ G.d) : Pure G "many" [treeV 50 rs, .str b] (.int ((belowR b rs).map RowV).length) := by
  have hn := (below_rows (b := b) R).num
  exact pure_of C.many rfl (by (exact a385 hd)) (ws_ret (ev_lenl (ev_call (New.pure (c_under (G := G.dn) C.dn R hb (by show 60 ≤ G.d - 1; (exact a387 hd)))) (evl_cons (ev_var 0 rfl (treeV_ok _ _)) (evl_cons (ev_var 1 rfl) evl_nil))) (by rw [List.length_map]; (exact a406 hn))) (.id _))
theorem c_cut (C : CP G) {rs : List Rw} (R : Rows rs) {b : List Nat} (hb : b.length ≤ 40) (hd : 70 ≤ G.d) : Pure G "cut" [treeV 50 rs, .str b] (.tup [treeV 50 (stayR b rs), treeV 50 (goneR b rs)]) := by
  refine pure_of C.cut rfl (by (exact a389 hd)) (ws_asg 2 (ev_call (c_parted (G := G.dn) C.rest C.gather C.names C.parted R hb (by show 60 ≤ G.d - 1; (exact a390 hd))) (evl_cons (ev_var 0 rfl (treeV_ok _ _)) (evl_cons (ev_var 1 rfl) evl_nil))) ?_)
  exact ws_ret (ev_tuple (evl_cons (ev_call (c_built 50 (G := G.dn) C.common C.grouped C.built ((stay_rows R).good (by decide) (by decide)) (by show 52 ≤ G.d - 1; (exact a413 hd))) (evl_cons (ev_idxt (ev_var 2 rfl) ev_int (by decide) (by decide) rfl) evl_nil)) (evl_cons (ev_call (c_built 50 (G := G.dn) C.common C.grouped C.built ((gone_rows R).good (by decide) (by decide)) (by show 52 ≤ G.d - 1; (exact a413 hd))) (evl_cons (ev_idxt (ev_var 2 rfl) ev_int (by decide) (by decide) rfl) evl_nil)) evl_nil)) sz2) (.id _)
theorem e_gone (C : CP G) {K : Sx} {ρ : List V} {σ : Ow} {rs : List Rw} (R : Rows rs) {b : List Nat} (hb : b.length ≤ 40) (hd : 60 ≤ G.d) {e1 e2 : PySem.Expr} {q p : Pos} (h1 : Ev G K ρ σ e1 (treeV 50 rs)) (h2 : Ev G K ρ σ e2 (.str b)) (hs : [e1, e2].all notStar = true := by rfl) (hg : globOK K "parted" = true := by decide +kernel) :
    Ev G K ρ σ (.Call (.Name "parted" q) [e1, e2] [] p) (.tup [.lst ((stayR b rs).map RowV), .lst ((goneR b rs).map RowV)]) := ev_call (c_parted C.rest C.gather C.names C.parted R hb hd) (evl_cons h1 (evl_cons h2 evl_nil)) hs hg
theorem c_renamed (C : CP G) {rs : List Rw} (R : Rows rs) {b o : List Nat} (hb : b.length ≤ 40) (ho : o.length ≤ 40) (hd : 70 ≤ G.d) (h : goneR b rs ≠ []) : Pure G "renamed" [treeV 50 rs, .str b, .str o] (.lst ((freshR b o rs).map RowV)) := by
  have g := gone_rows (b := b) R
  have gn := g.num
  have hl : ((goneR b rs).map RowV).length = (goneR b rs).length := List.length_map ..
  refine pure_of C.renamed rfl (by first | exact Nat.le_trans (by decide) hd | exact Nat.le_trans (by decide) hG | (first | lia | omega)) (ws_asg 3 (ev_idxt (e_gone C.dn R hb (by first | exact dl hd | exact dl0 hd | (show 60 ≤ G.d - 1; (first | lia | omega))) (ev_var 0 rfl (treeV_ok _ _)) (ev_var 1 rfl)) ev_int (by decide) (by decide) rfl) ?_)
  refine ws_if (tr_cmp (ev_lenl (ev_var 3 rfl) (by rw [hl]; (exact a406 gn))) ev_int cm_eqi) (fun e => ?_) fun _ => ws_nil ?_
  · rw [beq_iff_eq, hl] at e
    exact absurd (List.eq_nil_of_length_eq_zero (by first | exact Nat.le_trans (by decide) hd | exact Nat.le_trans (by decide) hG | (exact a422 e))) h
  · refine ws_ret (ev_compT (caps := [2]) (Fv := RowV) (Fw := fun r : Rw => [.str r.1, .int r.2]) (ts := goneR b rs) (fun r => some (RowV (o ++ r.1, r.2))) (fun r => .two _ _ _ _ _ _ _ _ (by decide)) (ev_var 3 rfl) rfl (by rw [szL]; (exact a391 gn)) (fun r hr => turn_all (ev_tuple (evl_cons (ev_adds (ev_var 0 rfl) (ev_var 1 rfl) (by have := g.len r hr; rw [szL]; (exact a426 ho this))) (evl_cons (ev_var 2 rfl) evl_nil)) sz2)) (by decide +kernel) (by intros; rfl)) ?_
    rw [List.filterMap_eq_map']
    show Res _ _ (.lst ((freshR b o rs).map RowV))
    unfold freshR
    rw [List.map_map]; exact .id _
section
variable {rs : List Rw} {b o : List Nat}
theorem c_moved (C : CP G) (R : Rows rs) (hb : b.length ≤ 40) (ho : o.length ≤ 40) (hd : 110 ≤ G.d) (h : goneR b rs ≠ []) (hn : hit (stayR b rs) (freshR b o rs) = false) : Pure G "moved" [treeV 50 rs, .str b, .str o] (treeV 100 (sortR (stayR b rs ++ freshR b o rs))) := by
  have T := fresh_two (b := b) (stay_rows (b := b) R) R ho
  have h1 := T.st.num
  have h2 := T.num
  have hh := hit_no hn
  refine pure_of C.moved rfl (by first | exact Nat.le_trans (by decide) hd | exact Nat.le_trans (by decide) hG | (first | lia | omega)) (ws_asg 3 (ev_call (c_renamed C.dn R hb ho (by first | exact dl hd | exact dl0 hd | (show 70 ≤ G.d - 1; (first | lia | omega))) h) (evl_cons (ev_var 0 rfl (treeV_ok _ _)) (evl_cons (ev_var 1 rfl) (evl_cons (ev_var 2 rfl) evl_nil)))) (ws_asg 4 (ev_idxt (e_gone C.dn R hb (by first | exact dl hd | exact dl0 hd | (show 60 ≤ G.d - 1; (first | lia | omega))) (ev_var 0 rfl (treeV_ok _ _)) (ev_var 1 rfl)) ev_int (by decide) (by decide) rfl) ?_))
  refine ws_expr (ev_call (c_need_free (G := G.dn) C.need_free C.sys (by first | exact Nat.le_trans (by decide) hd | exact Nat.le_trans (by decide) hG | (exact a431 h1)) (by first | exact dl hd | exact dl0 hd | (show 0 < G.d - 1; (first | lia | omega))) hh) (evl_cons (ev_var 3 rfl) (evl_cons (ev_var 4 rfl) evl_nil))) ?_
  exact ws_ret (ev_call (c_built_of (G := G.dn) C.common C.grouped C.built C.name_of C.built_of (T.dst hh) (T.good hh) (by first | exact dl hd | exact dl0 hd | (show 103 ≤ G.d - 1; (first | lia | omega)))) (evl_cons (Ev.to (ev_addl (ev_var 4 rfl) (ev_var 3 rfl) (by rw [List.length_map, List.length_map, szL]; (exact a432 h1 h2))) (by rw [List.map_append])) evl_nil)) (.id _)
theorem c_copied (C : CP G) (R : Rows rs) (hb : b.length ≤ 40) (ho : o.length ≤ 40) (hd : 110 ≤ G.d) (h : goneR b rs ≠ []) (hn : hit rs (freshR b o rs) = false) : Pure G "copied" [treeV 50 rs, .str b, .str o] (treeV 100 (sortR (rs ++ freshR b o rs))) := by
  have T := fresh_two (b := b) R R ho
  have h1 := T.st.num
  have h2 := T.num
  have hh := hit_no hn
  refine pure_of C.copied rfl (by first | exact Nat.le_trans (by decide) hd | exact Nat.le_trans (by decide) hG | (first | lia | omega)) (ws_asg 3 (ev_call (c_renamed C.dn R hb ho (by first | exact dl hd | exact dl0 hd | (show 70 ≤ G.d - 1; (first | lia | omega))) h) (evl_cons (ev_var 0 rfl (treeV_ok _ _)) (evl_cons (ev_var 1 rfl) (evl_cons (ev_var 2 rfl) evl_nil)))) (ws_asg 4 (ev_call (c_names (G := G.dn) C.gather C.names (R.good (f := 50) (by decide) (by decide)) (by first | exact dl hd | exact dl0 hd | (show 52 ≤ G.d - 1; (first | lia | omega)))) (evl_cons (ev_var 0 rfl (treeV_ok _ _)) evl_nil)) ?_))
  refine ws_expr (ev_call (c_need_free (G := G.dn) C.need_free C.sys (by first | exact Nat.le_trans (by decide) hd | exact Nat.le_trans (by decide) hG | (exact a431 h1)) (by first | exact dl hd | exact dl0 hd | (show 0 < G.d - 1; (first | lia | omega))) hh) (evl_cons (ev_var 3 rfl) (evl_cons (ev_var 4 rfl) evl_nil))) ?_
  exact ws_ret (ev_call (c_built_of (G := G.dn) C.common C.grouped C.built C.name_of C.built_of (T.dst hh) (T.good hh) (by first | exact dl hd | exact dl0 hd | (show 103 ≤ G.d - 1; (first | lia | omega)))) (evl_cons (Ev.to (ev_addl (ev_var 4 rfl) (ev_var 3 rfl) (by rw [List.length_map, List.length_map, szL]; (exact a432 h1 h2))) (by rw [List.map_append])) evl_nil)) (.id _)
theorem t_moved (C : CP G) {X : Addr} (hX : XC G "Taken" X) (R : Rows rs) (hb : b.length ≤ 40) (ho : o.length ≤ 40) (hd : 110 ≤ G.d) (h : goneR b rs ≠ []) (hn : hit (stayR b rs) (freshR b o rs) = true) : Rz G "moved" [treeV 50 rs, .str b, .str o] X := by
  have h1 := (stay_rows (b := b) R).num
  exact rz_of C.moved rfl (by first | exact Nat.le_trans (by decide) hd | exact Nat.le_trans (by decide) hG | (first | lia | omega)) (wr_seqs [_, _] (ws_asg 3 (ev_call (c_renamed C.dn R hb ho (by first | exact dl hd | exact dl0 hd | (show 70 ≤ G.d - 1; (first | lia | omega))) h) (evl_cons (ev_var 0 rfl (treeV_ok _ _)) (evl_cons (ev_var 1 rfl) (evl_cons (ev_var 2 rfl) evl_nil)))) (ws_asg 4 (ev_idxt (e_gone C.dn R hb (by first | exact dl hd | exact dl0 hd | (show 60 ≤ G.d - 1; (first | lia | omega))) (ev_var 0 rfl (treeV_ok _ _)) (ev_var 1 rfl)) ev_int (by decide) (by decide) rfl) (ws_nil ⟨rfl,
    wr_call (z_need_free (G := G.dn) C.need_free C.sys hX (by first | exact Nat.le_trans (by decide) hd | exact Nat.le_trans (by decide) hG | (exact a431 h1)) (by first | exact dl hd | exact dl0 hd | (show 0 < G.d - 1; (first | lia | omega))) (hit_yes hn)) (evl_cons (ev_var 3 rfl) (evl_cons (ev_var 4 rfl) evl_nil))⟩))))
theorem t_copied (C : CP G) {X : Addr} (hX : XC G "Taken" X) (R : Rows rs) (hb : b.length ≤ 40) (ho : o.length ≤ 40) (hd : 110 ≤ G.d) (h : goneR b rs ≠ []) (hn : hit rs (freshR b o rs) = true) : Rz G "copied" [treeV 50 rs, .str b, .str o] X := by
  have h1 := R.num
  exact rz_of C.copied rfl (by first | exact Nat.le_trans (by decide) hd | exact Nat.le_trans (by decide) hG | (first | lia | omega)) (wr_seqs [_, _] (ws_asg 3 (ev_call (c_renamed C.dn R hb ho (by first | exact dl hd | exact dl0 hd | (show 70 ≤ G.d - 1; (first | lia | omega))) h) (evl_cons (ev_var 0 rfl (treeV_ok _ _)) (evl_cons (ev_var 1 rfl) (evl_cons (ev_var 2 rfl) evl_nil)))) (ws_asg 4 (ev_call (c_names (G := G.dn) C.gather C.names (R.good (f := 50) (by decide) (by decide)) (by first | exact dl hd | exact dl0 hd | (show 52 ≤ G.d - 1; (first | lia | omega)))) (evl_cons (ev_var 0 rfl (treeV_ok _ _)) evl_nil)) (ws_nil ⟨rfl,
    wr_call (z_need_free (G := G.dn) C.need_free C.sys hX (by first | exact Nat.le_trans (by decide) hd | exact Nat.le_trans (by decide) hG | (exact a431 h1)) (by first | exact dl hd | exact dl0 hd | (show 0 < G.d - 1; (first | lia | omega))) (hit_yes hn)) (evl_cons (ev_var 3 rfl) (evl_cons (ev_var 4 rfl) evl_nil))⟩))))
end
end
end Mine

set_option autoImplicit false
set_option linter.all false
set_option maxRecDepth 100000
namespace Mine
open PySem PySem.W PyProof.Rows
inductive Tx : V → Bool → Prop
  | str (w : List Nat) : w.length ≤ 1000 → Tx (.str w) (okN w)
  | none : Tx .none false
  | int (i : Int) : Tx (.int i) false
theorem Tx.ok {x : V} {b : Bool} (h : Tx x b) : x.ok = true := by cases h <;> rfl
theorem Tx.name {x : V} (h : Tx x true) : ∃ w : List Nat, x = .str w ∧ w.length ≤ 40 ∧ okN w = true := by
  generalize hb : true = b at h
  cases h with
  | str w hw =>
    have h2 := hb.symm
    unfold okN at h2
    rw [Bool.and_eq_true, decide_eq_true_eq] at h2
    exact ⟨w, rfl, h2.1, rfl⟩
  | none => cases hb
  | int i => cases hb
structure CM (G : Gl) (C N : Addr) (mN : Str → Option Value) (fm : Str → Addr) : Prop where
  p : CP G
  w : CW G
  need_name : A_need_name G
  most : ∃ t, G.mg "MOST_NAMES" = some (.int 100 t)
  t : TrC G C N mN
  become : Mth G mN "become" (fm "become") K_Trail_become 2 B_Trail_become
  need_under : Mth G mN "need_under" (fm "need_under") K_Trail_need_under 2 B_Trail_need_under
  need_short : Mth G mN "need_short" (fm "need_short") K_Trail_need_short 3 B_Trail_need_short
  keep : Mth G mN "keep" (fm "keep") K_Trail_keep 3 B_Trail_keep
  drop : Mth G mN "drop" (fm "drop") K_Trail_drop 2 B_Trail_drop
  prune : Mth G mN "prune" (fm "prune") K_Trail_prune 2 B_Trail_prune
  move : Mth G mN "move" (fm "move") K_Trail_move 3 B_Trail_move
  graft : Mth G mN "graft" (fm "graft") K_Trail_graft 3 B_Trail_graft
  back : Mth G mN "back" (fm "back") K_Trail_back 1 B_Trail_back
  told : Mth G mN "told" (fm "told") K_Trail_told 2 B_Trail_told
  tree : Mth G mN "tree" (fm "tree") K_Trail_tree 1 B_Trail_tree
  size : Mth G mN "size" (fm "size") K_Trail_size 1 B_Trail_size
theorem TrC.dn {G : Gl} {C N : Addr} {mN : Str → Option Value} (T : TrC G C N mN) : TrC G.dn C N mN := ⟨T.1, T.2, T.3, T.4, T.5, T.6, T.7⟩
theorem Mth.dn {G : Gl} {mN : Str → Option Value} {m : Str} {f : Addr} {K : Sx} {np : Nat} {B : List Stmt} (M : Mth G mN m f K np B) : Mth G.dn mN m f K np B := ⟨M.1, M.2, M.3, M.4, M.5, M.6⟩
theorem CM.dn {G : Gl} {C N : Addr} {mN : Str → Option Value} {fm : Str → Addr} (M : CM G C N mN fm) : CM G.dn C N mN fm := ⟨M.p.dn, M.w.dn, M.need_name, M.most, M.t.dn, M.become.dn, M.need_under.dn, M.need_short.dn, M.keep.dn, M.drop.dn, M.prune.dn, M.move.dn, M.graft.dn, M.back.dn, M.told.dn, M.tree.dn, M.size.dn⟩
theorem tree_nb {f : Nat} {rs : List Rw} {F : Fz} {v : Value} (r : Rel F (treeV f rs) v) : ∀ i, v ≠ .builtin i := by
  match f, rs, r with
  | 0, _, r => cases show v = .none from r; nofun
  | _ + 1, [], r => cases show v = .none from r; nofun
  | _ + 1, [_], r => obtain ⟨a, _, rfl, _⟩ := r; nofun
  | _ + 1, _ :: _ :: _, r => obtain ⟨a, _, rfl, _⟩ := r; nofun
section
variable {G : Gl} {C N dx b X : Addr} {mN : Str → Option Value} {fm : Str → Addr} {x y : V} {ok : Bool} {rs : List Rw} {ps : List V}
theorem c_nameT (W : CW G) (h : Tx x ok) (hd : 2 ≤ G.d) : Pure G "is_name" [x] (.bool ok) := by
  cases h with
  | str w hw => exact c_is_name W hw hd
  | none => exact pure_of W.is_name rfl (by (exact a399 hd)) (ws_if (tr_bop (trl_or (c := false) (tr_not (tr_ev (ev_inst 10 is_none_str (ev_var 0 rfl)))) fun h => nomatch h)) (fun _ => ws_ret ev_bool (.id _)) fun h => nomatch h)
  | int i => exact pure_of W.is_name rfl (by (exact a399 hd)) (ws_if (tr_bop (trl_or (c := false) (tr_not (tr_ev (ev_inst 10 is_int_str (ev_var 0 rfl)))) fun h => nomatch h)) (fun _ => ws_ret ev_bool (.id _)) fun h => nomatch h)
theorem c_need_name (M : CM G C N mN fm) (h : Tx x true) (hd : 3 ≤ G.d) : Pure G "need_name" [x] .none :=
  pure_of M.need_name rfl (by (exact a397 hd)) (ws_if (tr_not (tr_ev (ev_call (c_nameT (G := G.dn) M.w.dn h (by show 2 ≤ G.d - 1; (exact a398 hd))) (evl_cons (ev_var 0 rfl h.ok) evl_nil)))) (fun h => nomatch h) fun _ => ws_nil (ws_nil (by exact rfl)))
theorem z_need_name (M : CM G C N mN fm) (hX : XC G "NoName" X) (h : Tx x false) (hd : 3 ≤ G.d) : Rz G "need_name" [x] X :=
  rz_of M.need_name rfl (by (exact a397 hd)) (wr_if (tr_not (tr_ev (ev_call (c_nameT (G := G.dn) M.w.dn h (by show 2 ≤ G.d - 1; (exact a398 hd))) (evl_cons (ev_var 0 rfl h.ok) evl_nil)))) (fun _ => wr_raise hX) fun h => nomatch h)
section
variable {K : Sx} {ρ : List V} {σ : Ow} {e a1 : PySem.Expr} {w : Bool} {ap p : Pos}
theorem ev_tree (M : CM G C N mN fm) (hσ : σ dx = some (.tr w y b)) (h1 : Ev G K ρ σ e (trl C dx)) (hd : 0 < G.d)
    (hn : ∀ n env t, attributeBase e n env t = t := by intros; rfl) (hl : (ap.endLine == p.line) = true := by rfl) : Ev G K ρ σ (.Call (.Attribute e "tree" ap) [] [] p) y :=
  ev_meth M.t M.tree hσ h1 evl_nil rfl hd (ws_ret (ev_keptT M.t.dn (Ow.put_self ..) (ev_var 0 rfl)) (.id _)) hn hl
theorem ev_size (M : CM G C N mN fm) (R : Rows rs) (hσ : σ dx = some (.tr w (treeV 50 rs) b)) (h1 : Ev G K ρ σ e (trl C dx)) (hd : 60 ≤ G.d)
    (hn : ∀ n env t, attributeBase e n env t = t := by intros; rfl) (hl : (ap.endLine == p.line) = true := by rfl) : Ev G K ρ σ (.Call (.Attribute e "size" ap) [] [] p) (.int rs.length) := by
  have hnum := R.num
  refine ev_meth M.t M.size hσ h1 evl_nil rfl (by (exact a386 hd)) (ws_ret ((ev_lenl (ev_call (c_names (G := G.dn) M.p.gather M.p.names (R.good (f := 50) (by decide) (by decide)) (by show 52 ≤ G.d - 1; (exact a388 hd))) (evl_cons (ev_keptT M.t.dn (Ow.put_self ..) (ev_var 0 rfl)) evl_nil)) (by rw [List.length_map]; (exact a406 hnum))).to ?_) (.id _)) hn hl
  rw [List.length_map]
theorem ev_toldT (M : CM G C N mN fm) (R : Rows rs) (hσ : σ dx = some (.tr w (treeV 50 rs) b)) (h1 : Ev G K ρ σ e (trl C dx)) {t : List Nat} (h2 : Ev G K ρ σ a1 (.str t)) (ht : okN t = true) (hd : 70 ≤ G.d)
    (hn : ∀ n env t, attributeBase e n env t = t := by intros; rfl) (hl : (ap.endLine == p.line) = true := by rfl) (hs : [a1].all notStar = true := by rfl) : Ev G K ρ σ (.Call (.Attribute e "told" ap) [a1] [] p) (.lst ((belowR t rs).map RowV)) := by
  have h40 : t.length ≤ 40 := by unfold okN at ht; rw [Bool.and_eq_true, decide_eq_true_eq] at ht; exact ht.1
  have hT : Tx (.str t) true := ht ▸ Tx.str t (by (exact a379 h40))
  exact ev_meth M.t M.told hσ h1 (evl_cons h2 evl_nil) rfl (by (exact a389 hd)) (ws_expr (ev_call (c_need_name M.dn hT (by show 3 ≤ G.d - 1; (exact a401 hd))) (evl_cons (ev_var 1 rfl) evl_nil)) (ws_ret (ev_call (New.pure (c_under M.p.dn R h40 (by show 60 ≤ G.d - 1; (exact a390 hd)))) (evl_cons (ev_keptT M.t.dn (Ow.put_self ..) (ev_var 0 rfl)) (evl_cons (ev_var 1 rfl) evl_nil))) (.id _))) hn hl hs
end
theorem b_become (M : CM G C N mN fm) (hne : dx ≠ b) {k : V} (hy : ∀ F v, Rel F y v → ∀ i, v ≠ .builtin i) (hyo : y.ok = true) (hps : ps.length ≤ 1000) : WS G K_Trail_become B_Trail_become [trl C dx, y] (σT σ0 dx b k ps) (trQ dx b fun x k' ps' => x = .none ∧ k' = y ∧ ps' = ps ++ [k]) := by
  refine ws_append (ev_pastT M.t (σT_dx hne) (ev_var 0 rfl)) σT_b (ev_keptT M.t (σT_dx hne) (ev_var 0 rfl)) (by rw [szL]; (exact a411 hps)) (ws_keptT M.t ((Ow.set_ne _ _ hne).trans (σT_dx hne)) (ev_var 1 rfl hyo) hy (ev_var 0 rfl) (ws_nil ⟨y, ps ++ [k], Ow.put_self .., (Ow.put_ne _ _ hne.symm).trans (Ow.set_self ..), rfl, rfl, rfl⟩))
theorem ws_become {K : Sx} {ρ : List V} {ss : List Stmt} {Q : KS} {e : PySem.Expr} {n : Str} {ap p pe q : Pos} (M : CM G C N mN fm) (hne : dx ≠ b) {f f' : Nat} {rs' : List Rw} (h1 : Ev G K ρ (σT σ0 dx b (treeV f rs) ps) (.Name n q) (trl C dx)) (h2 : Ev G K ρ (σT σ0 dx b (treeV f rs) ps) e (treeV f' rs')) (hps : ps.length ≤ 1000) (hd : 0 < G.d)
    (h : WS G K ss ρ (σT (σT σ0 dx b (treeV f rs) ps) dx b (treeV f' rs') (ps ++ [treeV f rs])) Q) (hl : (ap.endLine == p.line) = true := by rfl) (hs : [e].all notStar = true := by rfl) : WS G K (.Expr (.Call (.Attribute (.Name n q) "become" ap) [e] [] p) pe :: ss) ρ (σT σ0 dx b (treeV f rs) ps) Q := by
  refine ws_exprM (evm_meth M.t M.become (σT_dx hne) σT_b hne h1 (evl_cons h2 evl_nil) rfl hd (b_become M.dn hne (fun _ _ => tree_nb) (treeV_ok _ _) hps) (by intros; rfl) hl hs) ?_
  rintro x σ' ⟨k', ps', ⟨_, rfl, rfl⟩, rfl⟩
  exact h
end
end Mine

set_option autoImplicit false
set_option linter.all false
set_option maxRecDepth 100000
namespace Mine
open PySem PySem.W PyProof.Rows
theorem Tr.to {G : Gl} {K : Sx} {ρ : List V} {σ : Ow} {e : PySem.Expr} {b c : Bool} (h : Tr G K ρ σ e b) (hb : b = c) : Tr G K ρ σ e c := hb ▸ h
theorem foundV_ok (n : List Nat) (rs : List Rw) : (foundV n rs).ok = true := by unfold foundV; split <;> rfl
theorem foundV_or (n : List Nat) (rs : List Rw) : (foundV n rs = .none ∧ ∀ r ∈ rs, r.1 ≠ n) ∨ ((∃ v, foundV n rs = .int v) ∧ ∃ r ∈ rs, r.1 = n) := by
  unfold foundV
  cases h : rs.find? (fun r => r.1 == n) with
  | none => exact .inl ⟨rfl, fun r hr e => absurd (beq_iff_eq.mpr e) (by simpa using List.find?_eq_none.mp h r hr)⟩
  | some r => exact .inr ⟨⟨_, rfl⟩, r, List.mem_of_find?_eq_some h, eq_of_beq (List.find?_some (p := fun r : Rw => r.1 == n) h)⟩
section
variable {G : Gl} {C N dx b X : Addr} {mN : Str → Option Value} {fm : Str → Addr} {x y : V} {ok : Bool} {rs : List Rw} {ps : List V} {n : List Nat} {v : Int}
noncomputable abbrev σR (dx b : Addr) (k : V) : Ow := σ0.put dx (.tr false k b)
theorem σR_dx {k : V} : σR dx b k dx = some (.tr false k b) := Ow.put_self ..
theorem e_many (M : CM G C N mN fm) (R : Rows rs) {K : Sx} {ρ : List V} {σ : Ow} {w : Bool} {e₁ : PySem.Expr} {nm : Str} {p₁ p₂ p₃ p₄ p₅ p₆ p₇ p₈ : Pos} {c₁ : Nat} (hσ : σ dx = some (.tr w (treeV 50 rs) b)) (h1 : Ev G K ρ σ e₁ (foundV n rs)) (h2 : Ev G K ρ σ (.Name nm p₁) (trl C dx)) (hd : 60 ≤ G.d) (hm : (p₂.endLine == p₃.line) = true := by rfl) (hg : globOK K "MOST_NAMES" = true := by decide +kernel) :
    Tr G K ρ σ (.BoolOp .And [.Compare e₁ [.Is] [.Constant .none c₁ p₄] p₅, .Compare (.Call (.Attribute (.Name nm p₁) "size" p₂) [] [] p₃) [.GtE] [.Name "MOST_NAMES" p₆] p₇] p₈) (!(foundV n rs).nn && decide ((100 : Int) ≤ rs.length)) := by
  rcases foundV_or n rs with ⟨e, _⟩ | ⟨⟨u, e⟩, _⟩
  · rw [e] at h1 ⊢
    exact tr_bop (trl_and (tr_cmp h1 ev_none cm_is_none) fun _ => trl_one (tr_cmp (ev_size M R hσ h2 hd (by intros; rfl) hm) (ev_gint M.most hg) cm_ge))
  · rw [e] at h1 ⊢
    exact tr_bop (trl_and (b := false) (c := false) (tr_cmp h1 ev_none (cm_is_nn rfl)) nofun)
theorem b_keep (M : CM G C N mN fm) (hne : dx ≠ b) (R : Rows rs) (hn : okN n = true) (hok : (!(foundV n rs).nn && decide ((100 : Int) ≤ rs.length)) = false) (hps : ps.length ≤ 1000) (hd : 70 ≤ G.d) :
    WS G K_Trail_keep B_Trail_keep [trl C dx, .str n, .int v, .unb] (σT σ0 dx b (treeV 50 rs) ps) (trQ dx b fun x k' ps' => k' = treeV 50 (sortR (othersR n rs ++ [(n, v)])) ∧ ps' = ps ++ [treeV 50 rs]) := by
  have h40 : n.length ≤ 40 := by unfold okN at hn; rw [Bool.and_eq_true, decide_eq_true_eq] at hn; exact hn.1
  have hT : Tx (.str n) true := hn ▸ Tx.str n (by (exact a379 h40))
  refine ws_expr (ev_call (c_need_name M hT (by (exact a414 hd))) (evl_cons (ev_var 1 rfl) evl_nil)) (ws_asg 3 (ev_call (c_found M.p.rest M.p.branch_at M.p.found (R.good (f := 50) (by decide) (by decide)) (n := n) (by (exact a379 h40)) (by (exact a416 hd))) (evl_cons (ev_keptT M.t (σT_dx hne) (ev_var 0 rfl)) (evl_cons (ev_var 1 rfl) evl_nil))) ?_)
  refine ws_if (Tr.to (e_many M R (σT_dx hne) (ev_var 3 rfl (foundV_ok ..)) (ev_var 0 rfl) (by (exact a420 hd))) hok) nofun fun _ => ws_nil ?_
  exact ws_become M hne (ev_var 0 rfl) (ev_call (c_put M.p R h40 (by (exact a420 hd))) (evl_cons (ev_keptT M.t (σT_dx hne) (ev_var 0 rfl)) (evl_cons (ev_var 1 rfl) (evl_cons (ev_var 2 rfl) evl_nil)))) hps (by (exact a389 hd)) (ws_ret (ev_var 3 rfl (foundV_ok ..)) ⟨_, _, σT_dx hne, σT_b, rfl, rfl⟩)
theorem z_keep1 (M : CM G C N mN fm) (hX : XC G "NoName" X) {k : V} (h : Tx x false) (hd : 3 ≤ G.d) : WR G K_Trail_keep B_Trail_keep [trl C dx, x, .int v, .unb] (σR dx b k) X :=
  wr_call (z_need_name M hX h hd) (evl_cons (ev_var 1 rfl h.ok) evl_nil)
theorem z_keep2 (M : CM G C N mN fm) (hX : XC G "TooMany" X) (R : Rows rs) (hn : okN n = true) (hok : (!(foundV n rs).nn && decide ((100 : Int) ≤ rs.length)) = true) (hd : 70 ≤ G.d) : WR G K_Trail_keep B_Trail_keep [trl C dx, .str n, .int v, .unb] (σR dx b (treeV 50 rs)) X := by
  have h40 : n.length ≤ 40 := by unfold okN at hn; rw [Bool.and_eq_true, decide_eq_true_eq] at hn; exact hn.1
  have hT : Tx (.str n) true := hn ▸ Tx.str n (by (exact a379 h40))
  exact wr_seqs [_, _] (ws_expr (ev_call (c_need_name M hT (by (exact a414 hd))) (evl_cons (ev_var 1 rfl) evl_nil)) (ws_asg 3 (ev_call (c_found M.p.rest M.p.branch_at M.p.found (R.good (f := 50) (by decide) (by decide)) (n := n) (by (exact a379 h40)) (by (exact a416 hd))) (evl_cons (ev_keptT M.t σR_dx (ev_var 0 rfl)) (evl_cons (ev_var 1 rfl) evl_nil))) (ws_nil ⟨rfl, wr_if (Tr.to (e_many M R σR_dx (ev_var 3 rfl (foundV_ok ..)) (ev_var 0 rfl) (by (exact a420 hd))) hok) (fun _ => wr_raise hX) nofun⟩)))
theorem b_drop (M : CM G C N mN fm) (hne : dx ≠ b) (R : Rows rs) (hn : okN n = true) (h : ∃ r ∈ rs, r.1 = n) (hps : ps.length ≤ 1000) (hd : 70 ≤ G.d) :
    WS G K_Trail_drop B_Trail_drop [trl C dx, .str n, .unb] (σT σ0 dx b (treeV 50 rs) ps) (trQ dx b fun x k' ps' => k' = treeV 50 (othersR n rs) ∧ ps' = ps ++ [treeV 50 rs]) := by
  have h40 : n.length ≤ 40 := by unfold okN at hn; rw [Bool.and_eq_true, decide_eq_true_eq] at hn; exact hn.1
  have hT : Tx (.str n) true := hn ▸ Tx.str n (by (exact a379 h40))
  refine ws_expr (ev_call (c_need_name M hT (by (exact a414 hd))) (evl_cons (ev_var 1 rfl) evl_nil)) (ws_asg 2 (ev_call (c_found M.p.rest M.p.branch_at M.p.found (R.good (f := 50) (by decide) (by decide)) (n := n) (by (exact a379 h40)) (by (exact a416 hd))) (evl_cons (ev_keptT M.t (σT_dx hne) (ev_var 0 rfl)) (evl_cons (ev_var 1 rfl) evl_nil))) ?_)
  exact ws_become M hne (ev_var 0 rfl) (ev_call (c_without M.p R h40 (by (exact a420 hd)) h) (evl_cons (ev_keptT M.t (σT_dx hne) (ev_var 0 rfl)) (evl_cons (ev_var 1 rfl) evl_nil))) hps (by (exact a389 hd)) (ws_ret (ev_var 2 rfl (foundV_ok ..)) ⟨_, _, σT_dx hne, σT_b, rfl, rfl⟩)
theorem z_drop1 (M : CM G C N mN fm) (hX : XC G "NoName" X) {k : V} (h : Tx x false) (hd : 3 ≤ G.d) : WR G K_Trail_drop B_Trail_drop [trl C dx, x, .unb] (σR dx b k) X :=
  wr_call (z_need_name M hX h hd) (evl_cons (ev_var 1 rfl h.ok) evl_nil)
theorem z_drop2 (M : CM G C N mN fm) (hX : XC G "NotThere" X) (R : Rows rs) (hn : okN n = true) (h : ∀ r ∈ rs, r.1 ≠ n) (hd : 70 ≤ G.d) : WR G K_Trail_drop B_Trail_drop [trl C dx, .str n, .unb] (σR dx b (treeV 50 rs)) X := by
  have h40 : n.length ≤ 40 := by unfold okN at hn; rw [Bool.and_eq_true, decide_eq_true_eq] at hn; exact hn.1
  have hT : Tx (.str n) true := hn ▸ Tx.str n (by (exact a379 h40))
  exact wr_seqs [_, _] (ws_expr (ev_call (c_need_name M hT (by (exact a414 hd))) (evl_cons (ev_var 1 rfl) evl_nil)) (ws_asg 2 (ev_call (c_found M.p.rest M.p.branch_at M.p.found (R.good (f := 50) (by decide) (by decide)) (n := n) (by (exact a379 h40)) (by (exact a416 hd))) (evl_cons (ev_keptT M.t σR_dx (ev_var 0 rfl)) (evl_cons (ev_var 1 rfl) evl_nil))) (ws_nil ⟨rfl, wr_meth_arg M.t M.become σR_dx (ev_var 0 rfl) (z_without M.p hX R h40 (by (exact a420 hd)) h) (evl_cons (ev_keptT M.t σR_dx (ev_var 0 rfl)) (evl_cons (ev_var 1 rfl) evl_nil))⟩)))
theorem ev_need_under (M : CM G C N mN fm) (R : Rows rs) {K : Sx} {ρ : List V} {σ : Ow} {w : Bool} {e a1 : PySem.Expr} {ap p : Pos} (hσ : σ dx = some (.tr w (treeV 50 rs) b)) (h1 : Ev G K ρ σ e (trl C dx)) (h2 : Ev G K ρ σ a1 (.str n)) (h40 : n.length ≤ 40) (h : belowR n rs ≠ []) (hd : 70 ≤ G.d)
    (hn : ∀ n env t, attributeBase e n env t = t := by intros; rfl) (hl : (ap.endLine == p.line) = true := by rfl) (hs : [a1].all notStar = true := by rfl) : Ev G K ρ σ (.Call (.Attribute e "need_under" ap) [a1] [] p) (.int (belowR n rs).length) := by
  have hp : 0 < (belowR n rs).length := List.length_pos_iff.mpr h
  refine ev_meth M.t M.need_under hσ h1 (evl_cons h2 evl_nil) rfl (by (exact a389 hd)) (ws_asg 2 ((ev_call (c_many M.p.dn R h40 (by show 61 ≤ G.d - 1; (exact a417 hd))) (evl_cons (ev_keptT M.t.dn (Ow.put_self ..) (ev_var 0 rfl)) (evl_cons (ev_var 1 rfl) evl_nil))).to (by rw [List.length_map])) (ws_if (b := false) (Tr.to (tr_cmp (ev_var 2 rfl) ev_int cm_eqi) ?_) nofun fun _ => ws_nil (ws_ret (ev_var 2 rfl) (.id _)))) hn hl hs
  exact beq_eq_false_iff_ne.mpr (by (exact a436 hp))
theorem z_need_under (M : CM G C N mN fm) (hX : XC G "NotThere" X) (R : Rows rs) (h40 : n.length ≤ 40) (h : belowR n rs = []) (hd : 70 ≤ G.d) : WR G K_Trail_need_under B_Trail_need_under [trl C dx, .str n, .unb] (σR dx b (treeV 50 rs)) X := by
  refine wr_seq (ws_asg 2 ((ev_call (c_many M.p R h40 (by (exact a423 hd))) (evl_cons (ev_keptT M.t σR_dx (ev_var 0 rfl)) (evl_cons (ev_var 1 rfl) evl_nil))).to (by rw [h])) (ws_nil ⟨rfl, wr_if (b := true) (tr_cmp (ev_var 2 rfl) ev_int cm_eqi) (fun _ => wr_raise hX) nofun⟩))
theorem b_prune (M : CM G C N mN fm) (hne : dx ≠ b) (R : Rows rs) (hn : okN n = true) (h : belowR n rs ≠ []) (hps : ps.length ≤ 1000) (hd : 80 ≤ G.d) :
    WS G K_Trail_prune B_Trail_prune [trl C dx, .str n, .unb] (σT σ0 dx b (treeV 50 rs) ps) (trQ dx b fun x k' ps' => k' = treeV 50 (stayR n rs) ∧ ps' = ps ++ [treeV 50 rs]) := by
  have h40 : n.length ≤ 40 := by unfold okN at hn; rw [Bool.and_eq_true, decide_eq_true_eq] at hn; exact hn.1
  have hT : Tx (.str n) true := hn ▸ Tx.str n (by (exact a379 h40))
  refine ws_expr (ev_call (c_need_name M hT (by (exact a421 hd))) (evl_cons (ev_var 1 rfl) evl_nil)) (ws_asg 2 (ev_need_under M R (σT_dx hne) (ev_var 0 rfl) (ev_var 1 rfl) h40 h (by (exact a440 hd))) ?_)
  exact ws_become M hne (ev_var 0 rfl) (ev_idxt (ev_call (c_cut M.p R h40 (by (exact a440 hd))) (evl_cons (ev_keptT M.t (σT_dx hne) (ev_var 0 rfl)) (evl_cons (ev_var 1 rfl) evl_nil))) ev_int (by decide) (by decide) rfl) hps (by (exact a442 hd)) (ws_ret (ev_var 2 rfl) ⟨_, _, σT_dx hne, σT_b, rfl, rfl⟩)
theorem z_prune1 (M : CM G C N mN fm) (hX : XC G "NoName" X) {k : V} (h : Tx x false) (hd : 3 ≤ G.d) : WR G K_Trail_prune B_Trail_prune [trl C dx, x, .unb] (σR dx b k) X :=
  wr_call (z_need_name M hX h hd) (evl_cons (ev_var 1 rfl h.ok) evl_nil)
theorem z_prune2 (M : CM G C N mN fm) (hX : XC G "NotThere" X) (R : Rows rs) (hn : okN n = true) (h : belowR n rs = []) (hd : 80 ≤ G.d) : WR G K_Trail_prune B_Trail_prune [trl C dx, .str n, .unb] (σR dx b (treeV 50 rs)) X := by
  have h40 : n.length ≤ 40 := by unfold okN at hn; rw [Bool.and_eq_true, decide_eq_true_eq] at hn; exact hn.1
  have hT : Tx (.str n) true := hn ▸ Tx.str n (by (exact a379 h40))
  exact wr_seq (ws_expr (ev_call (c_need_name M hT (by (exact a421 hd))) (evl_cons (ev_var 1 rfl) evl_nil)) (ws_nil ⟨rfl, wr_asg_meth M.t M.need_under σR_dx (ev_var 0 rfl) (evl_cons (ev_var 1 rfl) evl_nil) rfl (by (exact a442 hd)) (z_need_under M.dn hX R h40 h (by show 70 ≤ G.d - 1; (exact a444 hd)))⟩))
end
end Mine

set_option autoImplicit false
set_option linter.all false
set_option maxRecDepth 100000
namespace Mine
open PySem PySem.W PyProof.Rows
theorem treeV_eq : ∀ (f g : Nat) {rs : List Rw}, Good f rs → Good g rs → treeV f rs = treeV g rs
  | 0, g, rs, hf, _ => by rw [hf.zero, treeV_nil, treeV_nil]
  | f + 1, 0, rs, _, hg => by rw [hg.zero, treeV_nil, treeV_nil]
  | f + 1, g + 1, [], _, _ => rfl
  | f + 1, g + 1, [_], _, _ => rfl
  | f + 1, g + 1, a :: b :: rs, hf, hg => by
    have h2 : 2 ≤ (a :: b :: rs).length := by simp
    have e : ∀ x ∈ groups (shareN (a :: b :: rs)) (a :: b :: rs), V.tup [.str x.1, treeV f (x.2.map (cutR (shareN (a :: b :: rs))))] = V.tup [.str x.1, treeV g (x.2.map (cutR (shareN (a :: b :: rs))))] := fun x hx => by rw [treeV_eq f g (hf.group h2 hx) (hg.group h2 hx)]
    show V.tup [_, _, .tup _] = V.tup [_, _, .tup _]
    rw [List.map_congr_left e]
theorem first_of {α : Type} {P : α → Prop} : ∀ {l : List α}, (∃ x ∈ l, P x) → ∃ (i : Nat) (x : α), l[i]? = some x ∧ P x ∧ ∀ (j : Nat) (y : α), j < i → l[j]? = some y → ¬ P y
  | [], h => by obtain ⟨x, hx, _⟩ := h; cases hx
  | a :: l, h => by
    by_cases ha : P a
    · exact ⟨0, a, rfl, ha, fun j y hj => absurd hj (Nat.not_lt_zero j)⟩
    · obtain ⟨x, hx, hp⟩ := h
      have : ∃ x ∈ l, P x := by
        rcases List.mem_cons.mp hx with rfl | h
        · exact absurd hp ha
        · exact ⟨x, h, hp⟩
      obtain ⟨i, x, h1, h2, h3⟩ := first_of this
      refine ⟨i + 1, x, h1, h2, fun j y hj hy => ?_⟩
      cases j with
      | zero => cases hy; exact ha
      | succ j => exact h3 j y (by (exact a418 hj)) hy
theorem gone_below {n : List Nat} {rs : List Rw} : goneR n rs = [] ↔ belowR n rs = [] := List.map_eq_nil_iff
section
variable {G : Gl} {C N dx b X : Addr} {mN : Str → Option Value} {fm : Str → Addr} {x y : V} {ok : Bool} {rs : List Rw} {ps : List V} {n o : List Nat} {v : Int}
theorem okN_40 {n : List Nat} (hn : okN n = true) : n.length ≤ 40 := by unfold okN at hn; rw [Bool.and_eq_true, decide_eq_true_eq] at hn; exact hn.1
theorem okN_tx {n : List Nat} (hn : okN n = true) : Tx (.str n) true := hn ▸ Tx.str n (by have := okN_40 hn; (exact a379 this))
abbrev tooLong (n o : List Nat) (r : Rw) : Prop := (40 : Int) < (r.1.length : Int) - n.length + o.length
theorem below_len (R : Rows rs) : ∀ r ∈ belowR n rs, r.1.length ≤ 40 := fun r hr => R.len r (List.mem_filter.mp hr).1
theorem e_long (M : CM G C N mN fm) {K : Sx} {ρ : List V} {σ : Ow} {e₁ e₂ e₃ : PySem.Expr} {p₁ p₂ p₃ p₄ p₅ p₆ p₇ p₈ p₉ p₀ : Pos} {r : Rw} (h1 : Ev G K ρ σ e₁ (.str r.1)) (h2 : Ev G K ρ σ e₂ (.str n)) (h3 : Ev G K ρ σ e₃ (.str o)) (l1 : r.1.length ≤ 40) (l2 : n.length ≤ 40) (l3 : o.length ≤ 40) (hs : [e₁, e₂, e₃].all notStar = true := by rfl) (hg : globOK K "len" = true := by decide +kernel) (hg2 : globOK K "MOST_SIGNS" = true := by decide +kernel) :
    Tr G K ρ σ (.Compare (.BinOp (.BinOp (.Call (.Name "len" p₁) [e₁] [] p₂) .Sub (.Call (.Name "len" p₃) [e₂] [] p₄) p₅) .Add (.Call (.Name "len" p₆) [e₃] [] p₇) p₈) [.Gt] [.Name "MOST_SIGNS" p₉] p₀) (decide ((40 : Int) < (r.1.length : Int) - n.length + o.length)) := by
  simp only [List.all_cons, List.all_nil, Bool.and_true, Bool.and_eq_true] at hs
  exact tr_cmp (ev_add (ev_sub (ev_lens h1 (by (exact a424 l1)) hs.1 hg) (ev_lens h2 (by (exact a424 l2)) hs.2.1 hg)) (ev_lens h3 (by (exact a424 l3)) hs.2.2 hg)) (ev_gint M.w.most hg2) cm_gt
theorem ev_need_short (M : CM G C N mN fm) (R : Rows rs) {K : Sx} {ρ : List V} {σ : Ow} {w : Bool} {e a1 a2 : PySem.Expr} {ap p : Pos} (hσ : σ dx = some (.tr w (treeV 50 rs) b)) (h1 : Ev G K ρ σ e (trl C dx)) (h2 : Ev G K ρ σ a1 (.str n)) (h3 : Ev G K ρ σ a2 (.str o)) (l2 : n.length ≤ 40) (l3 : o.length ≤ 40) (h : ∀ r ∈ belowR n rs, ¬ tooLong n o r) (hd : 70 ≤ G.d)
    (hn : ∀ n env t, attributeBase e n env t = t := by intros; rfl) (hl : (ap.endLine == p.line) = true := by rfl) (hs : [a1, a2].all notStar = true := by rfl) : Ev G K ρ σ (.Call (.Attribute e "need_short" ap) [a1, a2] [] p) .none := by
  refine ev_meth M.t M.need_short hσ h1 (evl_cons h2 (evl_cons h3 evl_nil)) rfl (by (exact a389 hd)) (ws_for (xs := (belowR n rs).map RowV) (fun i ρ σ => σ = σR dx b (treeV 50 rs) ∧ ∃ u v, ρ = [trl C dx, .str n, .str o, u, v]) (ev_call (New.pure (c_under M.p.dn R l2 (by show 60 ≤ G.d - 1; (exact a390 hd)))) (evl_cons (ev_keptT M.t.dn (Ow.put_self ..) (ev_var 0 rfl)) (evl_cons (ev_var 1 rfl) evl_nil))) rfl ⟨rfl, _, _, rfl⟩ ?_ ?_) hn hl hs
  · rintro i ρ σ z hz ⟨rfl, u, v, rfl⟩
    rw [List.getElem?_map] at hz
    obtain ⟨r, hr, rfl⟩ := Option.map_eq_some_iff.mp hz
    have hm := List.mem_of_getElem? hr
    exact ⟨_, asg_tup2 3 4, ws_if (Tr.to (e_long M.dn (r := r) (ev_var 3 rfl) (ev_var 1 rfl) (ev_var 2 rfl) (below_len R r hm) l2 l3) (decide_eq_false (h r hm))) nofun fun _ => ws_nil (ws_nil ⟨rfl, _, _, rfl⟩)⟩
  · rintro ρ σ ⟨rfl, u, v, rfl⟩
    exact ws_nil (by exact rfl)
theorem z_need_short (M : CM G C N mN fm) (hX : XC G "TooLong" X) (R : Rows rs) (l2 : n.length ≤ 40) (l3 : o.length ≤ 40) (h : ∃ r ∈ belowR n rs, tooLong n o r) (hd : 70 ≤ G.d) : WR G K_Trail_need_short B_Trail_need_short [trl C dx, .str n, .str o, .unb, .unb] (σR dx b (treeV 50 rs)) X := by
  obtain ⟨j, r, hj, hp, hfirst⟩ := first_of h
  have hjl := (List.getElem?_eq_some_iff.mp hj).1
  refine wr_for (xs := (belowR n rs).map RowV) (fun i ρ σ => σ = σR dx b (treeV 50 rs) ∧ ∃ u v, ρ = [trl C dx, .str n, .str o, u, v]) j (by rw [List.length_map]; exact hjl) (ev_call (New.pure (c_under M.p R l2 (by (exact a420 hd)))) (evl_cons (ev_keptT M.t (Ow.put_self ..) (ev_var 0 rfl)) (evl_cons (ev_var 1 rfl) evl_nil))) rfl ⟨rfl, _, _, rfl⟩ ?_ ?_
  · rintro i ρ σ z hi hz ⟨rfl, u, v, rfl⟩
    rw [List.getElem?_map] at hz
    obtain ⟨q, hq, rfl⟩ := Option.map_eq_some_iff.mp hz
    exact ⟨_, asg_tup2 3 4, ws_if (Tr.to (e_long M (r := q) (ev_var 3 rfl) (ev_var 1 rfl) (ev_var 2 rfl) (below_len R q (List.mem_of_getElem? hq)) l2 l3) (decide_eq_false (hfirst i q hi hq))) nofun fun _ => ws_nil (ws_nil ⟨rfl, _, _, rfl⟩)⟩
  · rintro ρ σ z hz ⟨rfl, u, v, rfl⟩
    rw [List.getElem?_map, hj] at hz
    cases hz
    exact ⟨_, asg_tup2 3 4, wr_if (Tr.to (e_long M (r := r) (ev_var 3 rfl) (ev_var 1 rfl) (ev_var 2 rfl) (below_len R r (List.mem_of_getElem? hj)) l2 l3) (decide_eq_true hp)) (fun _ => wr_raise hX) nofun⟩
theorem b_move (M : CM G C N mN fm) (hne : dx ≠ b) (R : Rows rs) (hn : okN n = true) (ho : okN o = true) (h : belowR n rs ≠ []) (hs : ∀ r ∈ belowR n rs, ¬ tooLong n o r) (hh : hit (stayR n rs) (freshR n o rs) = false) (hps : ps.length ≤ 1000) (hd : 120 ≤ G.d) :
    WS G K_Trail_move B_Trail_move [trl C dx, .str n, .str o, .unb] (σT σ0 dx b (treeV 50 rs) ps) (trQ dx b fun x k' ps' => k' = treeV 100 (sortR (stayR n rs ++ freshR n o rs)) ∧ ps' = ps ++ [treeV 50 rs]) := by
  refine ws_expr (ev_call (c_need_name M (okN_tx hn) (by (exact a428 hd))) (evl_cons (ev_var 1 rfl) evl_nil)) (ws_expr (ev_call (c_need_name M (okN_tx ho) (by (exact a428 hd))) (evl_cons (ev_var 2 rfl) evl_nil)) (ws_asg 3 (ev_need_under M R (σT_dx hne) (ev_var 0 rfl) (ev_var 1 rfl) (okN_40 hn) h (by (exact a443 hd))) (ws_expr (ev_need_short M R (σT_dx hne) (ev_var 0 rfl) (ev_var 1 rfl) (ev_var 2 rfl) (okN_40 hn) (okN_40 ho) hs (by (exact a443 hd))) ?_)))
  exact ws_become M hne (ev_var 0 rfl) (ev_call (c_moved M.p R (okN_40 hn) (okN_40 ho) (by (exact a446 hd)) (fun e => h (gone_below.mp e)) hh) (evl_cons (ev_keptT M.t (σT_dx hne) (ev_var 0 rfl)) (evl_cons (ev_var 1 rfl) (evl_cons (ev_var 2 rfl) evl_nil)))) hps (by (exact a448 hd)) (ws_ret (ev_var 3 rfl) ⟨_, _, σT_dx hne, σT_b, rfl, rfl⟩)
theorem z_move1 (M : CM G C N mN fm) (hX : XC G "NoName" X) {k : V} (h : Tx x false) (hy : y.ok = true) (hd : 3 ≤ G.d) : WR G K_Trail_move B_Trail_move [trl C dx, x, y, .unb] (σR dx b k) X :=
  wr_call (z_need_name M hX h hd) (evl_cons (ev_var 1 rfl h.ok) evl_nil)
theorem z_move2 (M : CM G C N mN fm) (hX : XC G "NoName" X) {k : V} (hn : okN n = true) (h : Tx y false) (hd : 3 ≤ G.d) : WR G K_Trail_move B_Trail_move [trl C dx, .str n, y, .unb] (σR dx b k) X :=
  wr_seq (ws_expr (ev_call (c_need_name M (okN_tx hn) hd) (evl_cons (ev_var 1 rfl) evl_nil)) (ws_nil ⟨rfl, wr_call (z_need_name M hX h hd) (evl_cons (ev_var 2 rfl h.ok) evl_nil)⟩))
theorem z_move3 (M : CM G C N mN fm) (hX : XC G "NotThere" X) (R : Rows rs) (hn : okN n = true) (ho : okN o = true) (h : belowR n rs = []) (hd : 120 ≤ G.d) : WR G K_Trail_move B_Trail_move [trl C dx, .str n, .str o, .unb] (σR dx b (treeV 50 rs)) X :=
  wr_seqs [_, _] (ws_expr (ev_call (c_need_name M (okN_tx hn) (by (exact a428 hd))) (evl_cons (ev_var 1 rfl) evl_nil)) (ws_expr (ev_call (c_need_name M (okN_tx ho) (by (exact a428 hd))) (evl_cons (ev_var 2 rfl) evl_nil)) (ws_nil ⟨rfl, wr_asg_meth M.t M.need_under σR_dx (ev_var 0 rfl) (evl_cons (ev_var 1 rfl) evl_nil) rfl (by (exact a448 hd)) (z_need_under M.dn hX R (okN_40 hn) h (by show 70 ≤ G.d - 1; (exact a450 hd)))⟩)))
theorem z_move4 (M : CM G C N mN fm) (hX : XC G "TooLong" X) (R : Rows rs) (hn : okN n = true) (ho : okN o = true) (h : belowR n rs ≠ []) (hl : ∃ r ∈ belowR n rs, tooLong n o r) (hd : 120 ≤ G.d) : WR G K_Trail_move B_Trail_move [trl C dx, .str n, .str o, .unb] (σR dx b (treeV 50 rs)) X :=
  wr_seqs [_, _, _] (ws_expr (ev_call (c_need_name M (okN_tx hn) (by (exact a428 hd))) (evl_cons (ev_var 1 rfl) evl_nil)) (ws_expr (ev_call (c_need_name M (okN_tx ho) (by (exact a428 hd))) (evl_cons (ev_var 2 rfl) evl_nil)) (ws_asg 3 (ev_need_under M R σR_dx (ev_var 0 rfl) (ev_var 1 rfl) (okN_40 hn) h (by (exact a443 hd))) (ws_nil ⟨rfl, wr_meth M.t M.need_short σR_dx (ev_var 0 rfl) (evl_cons (ev_var 1 rfl) (evl_cons (ev_var 2 rfl) evl_nil)) rfl (by (exact a448 hd)) (z_need_short M.dn hX R (okN_40 hn) (okN_40 ho) hl (by show 70 ≤ G.d - 1; (exact a450 hd)))⟩))))
theorem z_move5 (M : CM G C N mN fm) (hX : XC G "Taken" X) (R : Rows rs) (hn : okN n = true) (ho : okN o = true) (h : belowR n rs ≠ []) (hs : ∀ r ∈ belowR n rs, ¬ tooLong n o r) (hh : hit (stayR n rs) (freshR n o rs) = true) (hd : 120 ≤ G.d) : WR G K_Trail_move B_Trail_move [trl C dx, .str n, .str o, .unb] (σR dx b (treeV 50 rs)) X :=
  wr_seqs [_, _, _, _] (ws_expr (ev_call (c_need_name M (okN_tx hn) (by (exact a428 hd))) (evl_cons (ev_var 1 rfl) evl_nil)) (ws_expr (ev_call (c_need_name M (okN_tx ho) (by (exact a428 hd))) (evl_cons (ev_var 2 rfl) evl_nil)) (ws_asg 3 (ev_need_under M R σR_dx (ev_var 0 rfl) (ev_var 1 rfl) (okN_40 hn) h (by (exact a443 hd))) (ws_expr (ev_need_short M R σR_dx (ev_var 0 rfl) (ev_var 1 rfl) (ev_var 2 rfl) (okN_40 hn) (okN_40 ho) hs (by (exact a443 hd))) (ws_nil ⟨rfl, wr_meth_arg M.t M.become σR_dx (ev_var 0 rfl) (t_moved M.p hX R (okN_40 hn) (okN_40 ho) (by (exact a446 hd)) (fun e => h (gone_below.mp e)) hh) (evl_cons (ev_keptT M.t σR_dx (ev_var 0 rfl)) (evl_cons (ev_var 1 rfl) (evl_cons (ev_var 2 rfl) evl_nil)))⟩)))))
end
end Mine

set_option autoImplicit false
set_option linter.all false
set_option maxRecDepth 100000
namespace Mine
open PySem PySem.W PyProof.Rows
section
variable {G : Gl} {C N dx b X : Addr} {mN : Str → Option Value} {fm : Str → Addr} {x y : V} {ok : Bool} {rs : List Rw} {ps : List V} {n o : List Nat} {v : Int}
theorem e_full (M : CM G C N mN fm) (R : Rows rs) {K : Sx} {ρ : List V} {σ : Ow} {w : Bool} {e₂ : PySem.Expr} {nm : Str} {p₁ p₂ p₃ p₄ p₅ p₆ : Pos} {c : Nat} (hσ : σ dx = some (.tr w (treeV 50 rs) b)) (h1 : Ev G K ρ σ (.Name nm p₁) (trl C dx)) (h2 : Ev G K ρ σ e₂ (.int c)) (hd : 60 ≤ G.d) (hm : (p₂.endLine == p₃.line) = true := by rfl) (hg : globOK K "MOST_NAMES" = true := by decide +kernel) :
    Tr G K ρ σ (.Compare (.BinOp (.Call (.Attribute (.Name nm p₁) "size" p₂) [] [] p₃) .Add e₂ p₄) [.Gt] [.Name "MOST_NAMES" p₅] p₆) (decide ((100 : Int) < (rs.length : Int) + c)) :=
  tr_cmp (ev_add (ev_size M R hσ h1 hd (by intros; rfl) hm) h2) (ev_gint M.most hg) cm_gt
theorem b_graft (M : CM G C N mN fm) (hne : dx ≠ b) (R : Rows rs) (hn : okN n = true) (ho : okN o = true) (h : belowR n rs ≠ []) (hs : ∀ r ∈ belowR n rs, ¬ tooLong n o r) (hh : hit rs (freshR n o rs) = false) (hf : ¬ (100 : Int) < (rs.length : Int) + (belowR n rs).length) (hps : ps.length ≤ 1000) (hd : 120 ≤ G.d) :
    WS G K_Trail_graft B_Trail_graft [trl C dx, .str n, .str o, .unb, .unb] (σT σ0 dx b (treeV 50 rs) ps) (trQ dx b fun x k' ps' => k' = treeV 100 (sortR (rs ++ freshR n o rs)) ∧ ps' = ps ++ [treeV 50 rs]) := by
  refine ws_expr (ev_call (c_need_name M (okN_tx hn) (by (exact a428 hd))) (evl_cons (ev_var 1 rfl) evl_nil)) (ws_expr (ev_call (c_need_name M (okN_tx ho) (by (exact a428 hd))) (evl_cons (ev_var 2 rfl) evl_nil)) (ws_asg 3 (ev_need_under M R (σT_dx hne) (ev_var 0 rfl) (ev_var 1 rfl) (okN_40 hn) h (by (exact a443 hd))) (ws_expr (ev_need_short M R (σT_dx hne) (ev_var 0 rfl) (ev_var 1 rfl) (ev_var 2 rfl) (okN_40 hn) (okN_40 ho) hs (by (exact a443 hd))) ?_)))
  refine ws_asg 4 (ev_call (c_copied M.p R (okN_40 hn) (okN_40 ho) (by (exact a446 hd)) (fun e => h (gone_below.mp e)) hh) (evl_cons (ev_keptT M.t (σT_dx hne) (ev_var 0 rfl)) (evl_cons (ev_var 1 rfl) (evl_cons (ev_var 2 rfl) evl_nil)))) (ws_if (Tr.to (e_full M R (σT_dx hne) (ev_var 0 rfl) (ev_var 3 rfl) (by (exact a449 hd))) (decide_eq_false hf)) nofun fun _ => ws_nil ?_)
  exact ws_become M hne (ev_var 0 rfl) (ev_var 4 rfl (treeV_ok _ _)) hps (by (exact a448 hd)) (ws_ret (ev_var 3 rfl) ⟨_, _, σT_dx hne, σT_b, rfl, rfl⟩)
theorem z_graft1 (M : CM G C N mN fm) (hX : XC G "NoName" X) {k : V} (h : Tx x false) (hd : 3 ≤ G.d) : WR G K_Trail_graft B_Trail_graft [trl C dx, x, y, .unb, .unb] (σR dx b k) X :=
  wr_call (z_need_name M hX h hd) (evl_cons (ev_var 1 rfl h.ok) evl_nil)
theorem z_graft2 (M : CM G C N mN fm) (hX : XC G "NoName" X) {k : V} (hn : okN n = true) (h : Tx y false) (hd : 3 ≤ G.d) : WR G K_Trail_graft B_Trail_graft [trl C dx, .str n, y, .unb, .unb] (σR dx b k) X :=
  wr_seq (ws_expr (ev_call (c_need_name M (okN_tx hn) hd) (evl_cons (ev_var 1 rfl) evl_nil)) (ws_nil ⟨rfl, wr_call (z_need_name M hX h hd) (evl_cons (ev_var 2 rfl h.ok) evl_nil)⟩))
theorem z_graft3 (M : CM G C N mN fm) (hX : XC G "NotThere" X) (R : Rows rs) (hn : okN n = true) (ho : okN o = true) (h : belowR n rs = []) (hd : 120 ≤ G.d) : WR G K_Trail_graft B_Trail_graft [trl C dx, .str n, .str o, .unb, .unb] (σR dx b (treeV 50 rs)) X :=
  wr_seqs [_, _] (ws_expr (ev_call (c_need_name M (okN_tx hn) (by (exact a428 hd))) (evl_cons (ev_var 1 rfl) evl_nil)) (ws_expr (ev_call (c_need_name M (okN_tx ho) (by (exact a428 hd))) (evl_cons (ev_var 2 rfl) evl_nil)) (ws_nil ⟨rfl, wr_asg_meth M.t M.need_under σR_dx (ev_var 0 rfl) (evl_cons (ev_var 1 rfl) evl_nil) rfl (by (exact a448 hd)) (z_need_under M.dn hX R (okN_40 hn) h (by show 70 ≤ G.d - 1; (exact a450 hd)))⟩)))
theorem z_graft4 (M : CM G C N mN fm) (hX : XC G "TooLong" X) (R : Rows rs) (hn : okN n = true) (ho : okN o = true) (h : belowR n rs ≠ []) (hl : ∃ r ∈ belowR n rs, tooLong n o r) (hd : 120 ≤ G.d) : WR G K_Trail_graft B_Trail_graft [trl C dx, .str n, .str o, .unb, .unb] (σR dx b (treeV 50 rs)) X :=
  wr_seqs [_, _, _] (ws_expr (ev_call (c_need_name M (okN_tx hn) (by (exact a428 hd))) (evl_cons (ev_var 1 rfl) evl_nil)) (ws_expr (ev_call (c_need_name M (okN_tx ho) (by (exact a428 hd))) (evl_cons (ev_var 2 rfl) evl_nil)) (ws_asg 3 (ev_need_under M R σR_dx (ev_var 0 rfl) (ev_var 1 rfl) (okN_40 hn) h (by (exact a443 hd))) (ws_nil ⟨rfl, wr_meth M.t M.need_short σR_dx (ev_var 0 rfl) (evl_cons (ev_var 1 rfl) (evl_cons (ev_var 2 rfl) evl_nil)) rfl (by (exact a448 hd)) (z_need_short M.dn hX R (okN_40 hn) (okN_40 ho) hl (by show 70 ≤ G.d - 1; (exact a450 hd)))⟩))))
theorem z_graft5 (M : CM G C N mN fm) (hX : XC G "Taken" X) (R : Rows rs) (hn : okN n = true) (ho : okN o = true) (h : belowR n rs ≠ []) (hs : ∀ r ∈ belowR n rs, ¬ tooLong n o r) (hh : hit rs (freshR n o rs) = true) (hd : 120 ≤ G.d) : WR G K_Trail_graft B_Trail_graft [trl C dx, .str n, .str o, .unb, .unb] (σR dx b (treeV 50 rs)) X :=
  wr_seqs [_, _, _, _] (ws_expr (ev_call (c_need_name M (okN_tx hn) (by (exact a428 hd))) (evl_cons (ev_var 1 rfl) evl_nil)) (ws_expr (ev_call (c_need_name M (okN_tx ho) (by (exact a428 hd))) (evl_cons (ev_var 2 rfl) evl_nil)) (ws_asg 3 (ev_need_under M R σR_dx (ev_var 0 rfl) (ev_var 1 rfl) (okN_40 hn) h (by (exact a443 hd))) (ws_expr (ev_need_short M R σR_dx (ev_var 0 rfl) (ev_var 1 rfl) (ev_var 2 rfl) (okN_40 hn) (okN_40 ho) hs (by (exact a443 hd))) (ws_nil ⟨rfl, wr_asg (t_copied M.p hX R (okN_40 hn) (okN_40 ho) (by (exact a446 hd)) (fun e => h (gone_below.mp e)) hh) (evl_cons (ev_keptT M.t σR_dx (ev_var 0 rfl)) (evl_cons (ev_var 1 rfl) (evl_cons (ev_var 2 rfl) evl_nil)))⟩)))))
theorem z_graft6 (M : CM G C N mN fm) (hX : XC G "TooMany" X) (R : Rows rs) (hn : okN n = true) (ho : okN o = true) (h : belowR n rs ≠ []) (hs : ∀ r ∈ belowR n rs, ¬ tooLong n o r) (hh : hit rs (freshR n o rs) = false) (hf : (100 : Int) < (rs.length : Int) + (belowR n rs).length) (hd : 120 ≤ G.d) : WR G K_Trail_graft B_Trail_graft [trl C dx, .str n, .str o, .unb, .unb] (σR dx b (treeV 50 rs)) X :=
  wr_seqs [_, _, _, _, _] (ws_expr (ev_call (c_need_name M (okN_tx hn) (by (exact a428 hd))) (evl_cons (ev_var 1 rfl) evl_nil)) (ws_expr (ev_call (c_need_name M (okN_tx ho) (by (exact a428 hd))) (evl_cons (ev_var 2 rfl) evl_nil)) (ws_asg 3 (ev_need_under M R σR_dx (ev_var 0 rfl) (ev_var 1 rfl) (okN_40 hn) h (by (exact a443 hd))) (ws_expr (ev_need_short M R σR_dx (ev_var 0 rfl) (ev_var 1 rfl) (ev_var 2 rfl) (okN_40 hn) (okN_40 ho) hs (by (exact a443 hd))) (ws_asg 4 (ev_call (c_copied M.p R (okN_40 hn) (okN_40 ho) (by (exact a446 hd)) (fun e => h (gone_below.mp e)) hh) (evl_cons (ev_keptT M.t σR_dx (ev_var 0 rfl)) (evl_cons (ev_var 1 rfl) (evl_cons (ev_var 2 rfl) evl_nil)))) (ws_nil ⟨rfl, wr_if (Tr.to (e_full M R σR_dx (ev_var 0 rfl) (ev_var 3 rfl) (by (exact a449 hd))) (decide_eq_true hf)) (fun _ => wr_raise hX) nofun⟩))))))
theorem b_back (M : CM G C N mN fm) (hne : dx ≠ b) {k : V} {f : Nat} (hps : ps.length ≤ 1000) : WS G K_Trail_back B_Trail_back [trl C dx] (σT σ0 dx b k (ps ++ [treeV f rs])) (trQ dx b fun x k' ps' => x = .none ∧ k' = treeV f rs ∧ ps' = ps) := by
  refine ws_if (b := false) (Tr.to (tr_cmp (ev_leno (ev_pastT M.t (σT_dx hne) (ev_var 0 rfl)) σT_b (by rw [List.length_append]; show _ + 1 < _; (exact a465 hps))) ev_int cm_eqi) ?_) nofun fun _ => ws_nil (ws_popT M.t (σT_dx hne) σT_b hne (by (exact a466 hps)) (fun _ _ => tree_nb) (ev_var 0 rfl) (ev_var 0 rfl) (ws_nil ⟨_, ps, Ow.put_self .., (Ow.put_ne _ _ hne.symm).trans (Ow.set_self ..), rfl, rfl, rfl⟩))
  rw [List.length_append]
  exact beq_eq_false_iff_ne.mpr (by show ¬ ((ps.length + 1 : Nat) : Int) = 0; (exact a467 ))
noncomputable abbrev σB (dx b : Addr) (k : V) (ps : List V) : Ow := (σ0.put dx (.tr false k b)).put b (.ro ps)
theorem z_back (M : CM G C N mN fm) (hX : XC G "NothingDone" X) (hne : dx ≠ b) {k : V} : WR G K_Trail_back B_Trail_back [trl C dx] (σB dx b k []) X :=
  wr_if (b := true) (tr_cmp (ev_lenR (ev_pastT M.t ((Ow.put_ne _ _ hne).trans (Ow.put_self ..)) (ev_var 0 rfl)) (Ow.put_self ..) (by decide)) ev_int cm_eqi) (fun _ => wr_raise hX) nofun
end
end Mine

set_option autoImplicit false
set_option linter.all false
set_option maxRecDepth 100000
namespace Mine
open PySem PySem.W PyProof.Rows
section
variable {G : Gl} {K : Sx} {ρ : List V} {σ : Ow} {Q : KS} {f : Str} {xs : List V} {es : List PySem.Expr} {ss : List Stmt} {P : V → Prop} {p q' pc : Pos}
end
def TxV (z : V) : Prop := ∃ ok, Tx z ok
theorem txv {w : List Nat} (h : w.length ≤ 1000) : TxV (.str w) := ⟨_, .str w h⟩
theorem pure_ofP {G : Gl} {f : Str} {xs : List V} {z : V} (h : PureP G f xs (· = z)) : Pure G f xs z := ⟨h.is, fun A F s E vs k r => wpAny_mono (h.run A F s E vs k r) (fun _ _ q => q.elim fun _ q => q.1 ▸ q.2) fun _ _ e => e⟩
def sizeT (c : Int) : Nat := (c / 4 % 7 + 34 * (if (c / 28 % 9 == 8) = true then (1 : Int) else 0)).toNat
def textV (c : Int) (hs : List (List Nat)) : V :=
  if (c % 23 == 22) = true then ([V.str [97, 10], .str [9, 98], .str (wordBy c 41), .none, .int 7] : List V).getD (c / 23 % 5).toNat .none
  else if ((c % 4 == 0) || (hs.map V.str).isEmpty) = true then .str (wordBy (c / 28) (sizeT c))
  else if (c % 4 == 1) = true then .str (hs.getD (c / 28 % hs.length).toNat [])
  else if (c % 4 == 2) = true then .str ((hs.getD (c / 28 % hs.length).toNat [] ++ wordBy (c / 28) (sizeT c)).take 40)
  else .str ((hs.getD (c / 28 % hs.length).toNat []).take (c * 48271 % 2147483647 % ((hs.getD (c / 28 % hs.length).toNat []).length + 1)).toNat)
def otherV (c : Int) (hs : List (List Nat)) : V := if (c / 10 % 9 == 4) = true then textV (c / 10) hs else textV (c * 69621 % 2147483629) hs
theorem sizeT_le (c : Int) : sizeT c ≤ 40 ∧ c / 4 % 7 + 34 * (if (c / 28 % 9 == 8) = true then (1 : Int) else 0) = sizeT c := by
  have m0 := emod_nn (c / 4) (m := 7) (by decide)
  have m1 := Int.emod_lt_of_pos (c / 4) (b := 7) (by decide)
  unfold sizeT
  constructor <;> split <;> (first | exact a456  | exact a457  | exact a458 m0 | exact a459 m0)
theorem getD_40 {hs : List (List Nat)} (hl : ∀ h ∈ hs, h.length ≤ 40) (i : Nat) : (hs.getD i []).length ≤ 40 := by
  rw [List.getD_eq_getElem?_getD]
  cases h : hs[i]? with
  | none => exact Nat.zero_le _
  | some x => exact hl x (List.mem_of_getElem? h)
theorem textV_tx {c : Int} {hs : List (List Nat)} (hl : ∀ h ∈ hs, h.length ≤ 40) : TxV (textV c hs) := by
  have ho := getD_40 hl (c / 28 % hs.length).toNat
  have hw : (wordBy (c / 28) (sizeT c)).length ≤ 40 := by rw [wordBy_len]; exact (sizeT_le c).1
  unfold textV
  split
  · have m0 := emod_nn (c / 23) (m := 5) (by decide)
    have m1 := Int.emod_lt_of_pos (c / 23) (b := 5) (by decide)
    have : (c / 23 % 5).toNat < 5 := by (exact a460 )
    match (c / 23 % 5).toNat, this with
    | 0, _ => exact txv (w := [97, 10]) (by decide)
    | 1, _ => exact txv (w := [9, 98]) (by decide)
    | 2, _ => exact txv (w := wordBy c 41) (by rw [wordBy_len]; decide)
    | 3, _ => exact ⟨_, .none⟩
    | 4, _ => exact ⟨_, .int 7⟩
  · split
    · exact txv (by (exact a379 hw))
    · split
      · exact txv (by (exact a379 ho))
      · split
        · exact txv (by rw [List.length_take]; exact Nat.le_trans (Nat.min_le_left ..) (by decide))
        · exact txv (by rw [List.length_take]; exact Nat.le_trans (Nat.min_le_right ..) (by (exact a379 ho)))
theorem otherV_tx {c : Int} {hs : List (List Nat)} (hl : ∀ h ∈ hs, h.length ≤ 40) : TxV (otherV c hs) := by
  unfold otherV; split <;> exact textV_tx hl
section
variable {G : Gl}
theorem c_text_by (FA : A_law_text_by G) (FW : A_law_word_by G) (FS : A_law_sign_by G) {c : Int} {hs : List (List Nat)} (hl : ∀ h ∈ hs, h.length ≤ 40) (hn : hs.length ≤ 10000) (hd : 3 ≤ G.d) : Pure G "_law_text_by" [.int c, .lst (hs.map .str)] (textV c hs) := by
  have hlen : (hs.map V.str).length = hs.length := List.length_map ..
  refine pure_ofP (purep_of FA rfl (by (exact a397 hd)) (ws_if (tr_cmp (ev_mod (ev_var 0 rfl) ev_int (by decide)) ev_int cm_eqi) (fun h1 => ?_) fun h1 => ws_nil ?_))
  · have m0 := emod_nn (c / 23) (m := 5) (by decide)
    have m1 := Int.emod_lt_of_pos (c / 23) (b := 5) (by decide)
    have hz : ([V.str [97, 10], .str [9, 98], .str (wordBy c 41), .none, .int 7] : List V)[(c / 23 % 5).toNat]? = some (textV c hs) := by
      unfold textV
      rw [if_pos h1, List.getD_eq_getElem?_getD, List.getElem?_eq_getElem (by show _ < 5; (exact a460 ))]; rfl
    exact ws_ret (ev_idxl (ev_list (evl_cons (ev_lit [97, 10]) (evl_cons (ev_lit [9, 98]) (evl_cons (ev_call (c_word_by (G := G.dn) (n := 41) FW FS (by decide) (by show 2 ≤ G.d - 1; (exact a398 hd))) (evl_cons (ev_var 0 rfl) (evl_cons ev_int evl_nil))) (evl_cons ev_none (evl_cons ev_int evl_nil))))) (by show 5 ≤ _; decide)) (ev_mod (ev_fdiv (ev_var 0 rfl) ev_int (by decide) (by decide)) ev_int (by decide)) m0 (by (exact a473 )) hz) ⟨_, .id _, rfl⟩
  have h1 : ¬ (c % 23 == 22) = true := by rw [h1]; decide
  obtain ⟨hn40, en⟩ := sizeT_le c
  have hwl := wordBy_len (c / 28) (sizeT c)
  refine ws_asg 2 ((ev_add (ev_mod (ev_fdiv (ev_var 0 rfl) ev_int (by decide) (by decide)) ev_int (by decide)) (ev_mul ev_int (ev_int1 (ev_cmp (ev_mod (ev_fdiv (ev_var 0 rfl) ev_int (by decide) (by decide)) ev_int (by decide)) ev_int cm_eqi)) (.of_left (by decide)))).to (congrArg V.int en)) (ws_asg 3 (ev_call (c_word_by (G := G.dn) (n := sizeT c) FW FS (by (exact a379 hn40)) (by show 2 ≤ G.d - 1; (exact a398 hd))) (evl_cons (ev_fdiv (ev_var 0 rfl) ev_int (by decide) (by decide)) (evl_cons (ev_var 2 rfl) evl_nil))) ?_)
  refine ws_if (tr_bop (trl_or (tr_cmp (ev_mod (ev_var 0 rfl) ev_int (by decide)) ev_int cm_eqi) fun _ => trl_one (tr_cmp (ev_var 1 rfl) (ev_list evl_nil sz0) cm_eq_nil))) (fun h => ws_ret (ev_var 3 rfl) ⟨_, .id _, by unfold textV; rw [if_neg h1, if_pos h]⟩) fun h => ws_nil ?_
  have h2 : ¬ ((c % 4 == 0) || (hs.map V.str).isEmpty) = true := by rw [h]; decide
  have hne : hs ≠ [] := by
    rintro rfl
    simp at h
  have hp : 0 < hs.length := List.length_pos_iff.mpr hne
  obtain ⟨i, ei, hi⟩ := nat_mod (c / 28) hs.length (by (exact a497 hp))
  have hi' : i < hs.length := by (exact a82 hi)
  have ho : hs.getD (c / 28 % hs.length).toNat [] = hs[i] := by rw [ei, Int.toNat_natCast, List.getD_eq_getElem?_getD, List.getElem?_eq_getElem hi']; rfl
  have hr : (hs.map V.str)[(i : Int).toNat]? = some (.str hs[i]) := by rw [Int.toNat_natCast, List.getElem?_map, List.getElem?_eq_getElem hi']; rfl
  have hol := hl _ (List.getElem_mem hi')
  generalize hs[i] = o at hr hol ho
  refine ws_asg 4 (ev_idxl (i := i) (ev_var 1 rfl) ((ev_mod (ev_fdiv (ev_var 0 rfl) ev_int (by decide) (by decide)) (ev_lenl (ev_var 1 rfl) (by rw [hlen]; (exact a498 hn))) (by rw [hlen]; (exact a497 hp))).to (by rw [hlen, ei])) (n0 i) (by (exact a499 hi hn)) hr) ?_
  refine ws_if (tr_cmp (ev_mod (ev_var 0 rfl) ev_int (by decide)) ev_int cm_eqi) (fun h3 => ws_ret (ev_var 4 rfl) ⟨_, .id _, by unfold textV; rw [if_neg h1, if_neg h2, if_pos h3, ho]⟩) fun h3 => ws_nil ?_
  have h3 : ¬ (c % 4 == 1) = true := by rw [h3]; decide
  refine ws_if (tr_cmp (ev_mod (ev_var 0 rfl) ev_int (by decide)) ev_int cm_eqi) (fun h4 => ws_ret (ev_slc (ev_adds (ev_var 4 rfl) (ev_var 3 rfl) (by rw [szL]; (exact a504 hol hwl hn40))) evo_none (evo_some ev_int) (by rw [szL, List.length_append]; (exact a504 hol hwl hn40))) ⟨_, .id _, ?_⟩) fun h4 => ws_nil ?_
  · unfold textV; rw [if_neg h1, if_neg h2, if_neg h3, if_pos h4, ho, slice_hi _ (by decide)]; rfl
  · have h4 : ¬ (c % 4 == 2) = true := by rw [h4]; decide
    refine ws_ret (ev_slc (ev_var 4 rfl) evo_none (evo_some (ev_mod (ev_mod (ev_mul (ev_var 0 rfl) ev_int (.of_right (by decide))) ev_int (by decide)) (ev_add (ev_lens (ev_var 4 rfl) (by (exact a424 hol))) ev_int) (by (exact a505 )))) (by rw [szL]; (exact a506 hol))) ⟨_, .id _, ?_⟩
    unfold textV; rw [if_neg h1, if_neg h2, if_neg h3, if_neg h4, ho, slice_hi _ (emod_nn _ (by (exact a505 )))]
theorem c_other_by (FO : A_law_other_by G) (FA : A_law_text_by G) (FW : A_law_word_by G) (FS : A_law_sign_by G) {c : Int} {hs : List (List Nat)} (hl : ∀ h ∈ hs, h.length ≤ 40) (hn : hs.length ≤ 10000) (hd : 4 ≤ G.d) : Pure G "_law_other_by" [.int c, .lst (hs.map .str)] (otherV c hs) :=
  pure_of FO rfl (by (exact a464 hd)) (ws_if (tr_cmp (ev_mod (ev_fdiv (ev_var 0 rfl) ev_int (by decide) (by decide)) ev_int (by decide)) ev_int cm_eqi) (fun h => ws_ret (ev_call (c_text_by (G := G.dn) FA FW FS hl hn (by show 3 ≤ G.d - 1; (exact a508 hd))) (evl_cons (ev_fdiv (ev_var 0 rfl) ev_int (by decide) (by decide)) (evl_cons (ev_var 1 rfl) evl_nil))) (by unfold otherV; rw [if_pos h]; exact .id _)) fun h => ws_nil (ws_ret (ev_call (c_text_by (G := G.dn) FA FW FS hl hn (by show 3 ≤ G.d - 1; (exact a508 hd))) (evl_cons (ev_mod (ev_mul (ev_var 0 rfl) ev_int (.of_right (by decide))) ev_int (by decide)) (evl_cons (ev_var 1 rfl) evl_nil))) (by unfold otherV; rw [if_neg (by rw [h]; decide)]; exact .id _)))
end
end Mine

set_option autoImplicit false
set_option linter.all false
set_option maxRecDepth 100000
namespace Mine
open PySem PySem.W PyProof.Rows
structure CD (G : Gl) (C N : Addr) (mN : Str → Option Value) (fm : Str → Addr) : Prop where
  m : CM G C N mN fm
  text_by : A_law_text_by G
  other_by : A_law_other_by G
  word : A_law_word_by G
  sign : A_law_sign_by G
  number : A_law_number_by G
  deed : A_law_deed G
theorem CD.dn {G : Gl} {C N : Addr} {mN : Str → Option Value} {fm : Str → Addr} (D : CD G C N mN fm) : CD G.dn C N mN fm := ⟨D.m.dn, D.2, D.3, D.4, D.5, D.6, D.7⟩
def asgE : List Stmt → PySem.Expr
  | .Assign _ e _ :: _ => e
  | _ => .Constant .none 0 default
def wayL : List Nat := [0, 0, 0, 1, 2, 3, 3, 4, 4, 5]
def wayOf (c : Int) : Nat := wayL.getD (c % 10).toNat 0
theorem way_get (c : Int) : (wayL.map fun n : Nat => V.int n)[(c % 10).toNat]? = some (.int (wayOf c)) ∧ 0 ≤ c % 10 ∧ c % 10 < 10 ∧ wayOf c < 6 ∧ (wayOf c = 5 ↔ c % 10 = 9) := by
  have m0 := emod_nn c (m := 10) (by decide)
  have m1 := Int.emod_lt_of_pos c (b := 10) (by decide)
  unfold wayOf
  obtain ⟨k, hk⟩ : ∃ k : Nat, c % 10 = k := ⟨(c % 10).toNat, by (exact a453 m0)⟩
  have hk10 : k < 10 := by (exact a454 hk)
  rw [hk, Int.toNat_natCast]
  match k, hk10 with
  | 0, _ | 1, _ | 2, _ | 3, _ | 4, _ | 5, _ | 6, _ | 7, _ | 8, _ | 9, _ => exact ⟨rfl, by decide, by decide, by decide, by decide⟩
section
variable {G : Gl} {K : Sx} {ρ : List V} {σ : Ow} {Q : KS}
theorem evl_consW {e : PySem.Expr} {es : List PySem.Expr} {x : V} {xs : List V} (h : Ev G K ρ σ e x) (h2 : True ∧ EvL G K ρ σ es xs) : True ∧ EvL G K ρ σ (e :: es) (x :: xs) := ⟨trivial, evl_cons h h2.2⟩
theorem ev_pickW {es : List PySem.Expr} {ix : PySem.Expr} {xs : List V} {z : V} {i : Int} (p q : Pos) (h : True ∧ EvL G K ρ σ es xs) (hl : xs.length ≤ sizeLine) (hs : es.all notStar = true) (h2 : Ev G K ρ σ ix (.int i)) (h0 : 0 ≤ i) (hi : i < 2 ^ 62) (hz : xs[i.toNat]? = some z) (hn : notSlice ix = true) : True ∧ Ev G K ρ σ (.Subscript (.List es p) ix q) z := ⟨trivial, ev_idxl (ev_list h.2 hl hs) h2 h0 hi hz hn⟩
theorem ws_pickW (i : Nat) {ss r : List Stmt} {n : Str} {q p q' q'' : Pos} {x : V} {es : List PySem.Expr} {ix : PySem.Expr} (hss : ss = .Assign [.Name n q] (.Subscript (.List es q') ix q'') p :: r) (h1 : True ∧ Ev G K ρ σ (asgE ss) x) (h2 : WS G K r (ρ.set i x) σ Q) (hx : nameOK K i n = true) : True ∧ WS G K ss ρ σ Q := by
  subst hss
  exact ⟨trivial, ws_asg i h1.2 h2 hx fun _ _ => rfl⟩
def subE : PySem.Expr → List PySem.Expr × Pos × PySem.Expr × Pos
  | .Subscript (.List es p) ix q => (es, p, ix, q)
  | _ => ([], default, .Constant .none 0 default, default)
theorem e_elems : True ∧ EvL G K ρ σ (subE (asgE B_law_deed)).1 (wayL.map fun n : Nat => V.int n) :=
  evl_consW ev_int (evl_consW ev_int (evl_consW ev_int (evl_consW ev_int (evl_consW ev_int (evl_consW ev_int (evl_consW ev_int (evl_consW ev_int (evl_consW ev_int (evl_consW ev_int ⟨trivial, evl_nil⟩)))))))))
theorem wayL_len : (wayL.map fun n : Nat => V.int n).length ≤ sizeLine := by rw [szL]; decide
theorem e_way {c : Int} {x : V} {r : List V} : True ∧ Ev G K_law_deed (x :: .int c :: r) σ (asgE B_law_deed) (.int (wayOf c)) := by
  obtain ⟨h1, h2, h3, _, _⟩ := way_get c
  exact ev_pickW (subE (asgE B_law_deed)).2.1 (subE (asgE B_law_deed)).2.2.2 (ix := (subE (asgE B_law_deed)).2.2.1) e_elems wayL_len rfl (ev_mod (ev_var 1 rfl) ev_int (by decide)) h2 (by (exact a461 )) h1 rfl
theorem below_nil (rs : List Rw) : belowR [] rs = rs := List.filter_eq_self.mpr fun r _ => rfl
theorem cm_tx {a : List Nat} {x : V} {ok : Bool} (h : Tx x ok) : ∃ b, Cm G .Eq (.str a) x b := by
  cases h with
  | str w hw => exact ⟨_, cm_eqs⟩
  | none => exact ⟨_, cm_eq_str_none⟩
  | int i => exact ⟨_, cm_eq_str_int⟩
end
section
variable {G : Gl} {C N dx b : Addr} {mN : Str → Option Value} {fm : Str → Addr} {rs : List Rw}
theorem deed_pre (D : CD G C N mN fm) (R : Rows rs) {σ : Ow} {w : Bool} (hσ : σ dx = some (.tr w (treeV 50 rs) b)) {c : Int} {Q : KS} (hd : 80 ≤ G.d)
    (h : ∀ num pv, WS G K_law_deed (B_law_deed.drop 6) [trl C dx, .int c, .int (wayOf c), .lst ((rs.map (·.1)).map .str), textV (c / 10) (rs.map (·.1)), otherV c (rs.map (·.1)), .int num, pv] σ Q) : True ∧ WS G K_law_deed B_law_deed [trl C dx, .int c, .unb, .unb, .unb, .unb, .unb, .unb] σ Q := by
  have hnum := R.num
  have hl : ∀ t ∈ rs.map (·.1), t.length ≤ 40 := fun t ht => by obtain ⟨r, hr, rfl⟩ := List.mem_map.mp ht; exact R.len r hr
  have hln : (rs.map (·.1)).length ≤ 10000 := by rw [List.length_map]; (exact a431 hnum)
  obtain ⟨ok1, T1⟩ := textV_tx (c := c / 10) hl
  obtain ⟨ok2, T2⟩ := otherV_tx (c := c) hl
  have told : ∀ {ρ : List V} {e a1 : PySem.Expr} {ap p : Pos}, Ev G K_law_deed ρ σ e (trl C dx) → Ev G K_law_deed ρ σ a1 (.str []) → (∀ n env t, attributeBase e n env t = t) → (ap.endLine == p.line) = true → [a1].all notStar = true → Ev G K_law_deed ρ σ (.Call (.Attribute e "told" ap) [a1] [] p) (.lst (rs.map RowV)) := fun h1 h2 h3 h4 h5 => (ev_toldT D.m R hσ h1 h2 rfl (by (exact a440 hd)) h3 h4 h5).to (by rw [below_nil])
  refine ws_pickW (r := B_law_deed.drop 1) 2 (n := "_law_way") rfl e_way ?_ (by decide +kernel)
  have eh : (rs.filterMap fun r => some (V.str r.1)) = (rs.map (·.1)).map .str := by rw [List.filterMap_eq_map', List.map_map]; rfl
  refine ws_asg_comp (caps := []) (Fv := RowV) (ts := rs) 3 (fun r => some (V.str r.1)) (told (ev_var 0 rfl) (ev_lit []) (by intros; rfl) rfl rfl) rfl (by rw [szL]; (exact a391 hnum)) (fun r hr => turn_all (ev_row0 (r := r) (ev_var 0 rfl))) ?_
  rw [eh]
  refine ws_asg 4 (ev_call (c_text_by D.text_by D.word D.sign hl hln (by (exact a421 hd))) (evl_cons (ev_fdiv (ev_var 1 rfl) ev_int (by decide) (by decide)) (evl_cons (ev_var 3 rfl) evl_nil))) (ws_asg 5 (ev_call (c_other_by D.other_by D.text_by D.word D.sign hl hln (by (exact a468 hd))) (evl_cons (ev_var 1 rfl) (evl_cons (ev_var 3 rfl) evl_nil))) (ws_asg 6 (ev_call (c_number_by D.number (by (exact a442 hd))) (evl_cons (ev_fdiv (ev_var 1 rfl) ev_int (by decide) (by decide)) evl_nil)) ?_))
  refine ws_for (xs := rs.map RowV) (fun i ρ σ' => σ' = σ ∧ ∃ num pv, ρ = [trl C dx, .int c, .int (wayOf c), .lst ((rs.map (·.1)).map .str), textV (c / 10) (rs.map (·.1)), otherV c (rs.map (·.1)), .int num, pv]) (told (ev_var 0 rfl) (ev_lit []) (by intros; rfl) rfl rfl) rfl ⟨rfl, _, _, rfl⟩ ?_ ?_
  · rintro i ρ σ' z hz ⟨rfl, num, pv, rfl⟩
    rw [List.getElem?_map] at hz
    obtain ⟨r, hr, rfl⟩ := Option.map_eq_some_iff.mp hz
    obtain ⟨u, hu⟩ := cm_tx (G := G) (a := r.1) T1
    exact ⟨_, asg_name 7, ws_if (tr_bop (trl_and (tr_cmp (ev_row0 (r := r) (ev_var 7 rfl)) (ev_var 4 rfl T1.ok) hu) fun _ => trl_one (tr_cmp (ev_mod (ev_fdiv (ev_var 1 rfl) ev_int (by decide) (by decide)) ev_int (by decide)) ev_int cm_eqi))) (fun _ => ws_asg 6 (ev_row1 (r := r) (ev_var 7 rfl)) (ws_nil (ws_nil ⟨rfl, _, _, rfl⟩))) fun _ => ws_nil (ws_nil ⟨rfl, _, _, rfl⟩)⟩
  · rintro ρ σ' ⟨rfl, num, pv, rfl⟩
    exact h num pv
end
end Mine

set_option autoImplicit false
set_option linter.all false
set_option maxRecDepth 100000
namespace Mine
open PySem PySem.W PyProof.Rows
structure CX (G : Gl) : Prop where
  nn : ∃ C, XC G "NoName" C
  nt : ∃ C, XC G "NotThere" C
  tk : ∃ C, XC G "Taken" C
  tl : ∃ C, XC G "TooLong" C
  tm : ∃ C, XC G "TooMany" C
  nd : ∃ C, XC G "NothingDone" C
  te : ∃ C, XC G "TrailError" C
  m1 : mroAt G.mg G.B "NoName" "TrailError"
  m2 : mroAt G.mg G.B "NotThere" "TrailError"
  m3 : mroAt G.mg G.B "Taken" "TrailError"
  m4 : mroAt G.mg G.B "TooLong" "TrailError"
  m5 : mroAt G.mg G.B "TooMany" "TrailError"
  m6 : mroAt G.mg G.B "NothingDone" "TrailError"
  ve : G.mg "ValueError" = none ∧ G.mb "ValueError" = some (.type "ValueError")
theorem CX.dn {G : Gl} (X : CX G) : CX G.dn := ⟨X.1, X.2, X.3, X.4, X.5, X.6, X.7, X.8, X.9, X.10, X.11, X.12, X.13, X.14⟩
structure Kp100 (rs : List Rw) : Prop where
  r : Rows rs
  n : rs.length ≤ 100
  ok : ∀ r ∈ rs, r.1.all okS = true
def Step (c : Int) (rs : List Rw) (ps : List V) (k' : V) (ps' : List V) : Prop := (c % 10 = 9 ∧ ps = ps' ++ [k']) ∨ (c % 10 ≠ 9 ∧ ps' = ps ++ [treeV 50 rs] ∧ ∃ rs', Kp100 rs' ∧ k' = treeV 50 rs')
theorem rows_filter {rs : List Rw} (R : Kp100 rs) (P : Rw → Bool) : Kp100 (rs.filter P) :=
  have h := List.length_filter_le P rs
  ⟨⟨R.r.srt.filter _, fun r hr => R.r.len r (List.mem_filter.mp hr).1, Nat.le_trans h R.r.num⟩, Nat.le_trans h R.n, fun r hr => R.ok r (List.mem_filter.mp hr).1⟩
theorem keep_rows {rs : List Rw} {n : List Nat} {v : Int} (R : Kp100 rs) (hn : okN n = true) (hok : (!(foundV n rs).nn && decide ((100 : Int) ≤ rs.length)) = false) : Kp100 (sortR (othersR n rs ++ [(n, v)])) := by
  have h2 : (othersR n rs).length ≤ rs.length := List.length_filter_le ..
  have hlen : (othersR n rs ++ [(n, v)]).length ≤ 100 := by
    rw [List.length_append]
    show _ + 1 ≤ _
    have := R.n
    rcases foundV_or n rs with ⟨e, _⟩ | ⟨_, r, hr, e⟩
    · rw [e] at hok
      have : decide ((100 : Int) ≤ rs.length) = false := (Bool.and_eq_false_iff.mp hok).resolve_left (by decide)
      have := of_decide_eq_false this
      omega
    · have : (othersR n rs).length < rs.length := by
        refine Nat.lt_of_le_of_ne h2 fun q => ?_
        have := List.filter_eq_self.mp (List.filter_sublist.eq_of_length q) r hr
        rw [e] at this
        simp at this
      omega
  refine ⟨sortR_rows (put_dst R.r.srt) (fun r hr => ?_) (Nat.le_trans hlen (by decide)), by rw [(sortR_perm _).length_eq]; exact hlen, fun r hr => ?_⟩
  · rcases List.mem_append.mp hr with q | q
    · exact R.r.len r (List.mem_filter.mp q).1
    · rw [List.mem_singleton] at q; subst q; exact okN_40 hn
  · rcases List.mem_append.mp ((sortR_perm _).mem_iff.mp hr) with q | q
    · exact R.ok r (List.mem_filter.mp q).1
    · rw [List.mem_singleton] at q; subst q; exact (Bool.and_eq_true_iff.mp hn).2
section
variable {G : Gl} {C N dx b X : Addr} {mN : Str → Option Value} {fm : Str → Addr} {rs : List Rw} {ps : List V} {c : Int} {ρ : List V} {σ : Ow} {Q : KS} {ss a : List Stmt} {p q pe pc : Pos} {kc k : Nat} {j : Int}
theorem wr_skip (hρ : ρ[2]? = some (.int k)) (h : WR G K_law_deed ss ρ σ X) (hkj : ((k : Int) == j) = false := by rfl) : WR G K_law_deed (.If (.Compare (.Name "_law_way" q) [.Eq] [.Constant (.int j) kc pc] p) a [] pe :: ss) ρ σ X :=
  wr_seq (ws_if (b := false) (Tr.to (tr_cmp (ev_var 2 hρ) ev_int cm_eqi) hkj) nofun fun _ => ws_nil (ws_nil ⟨rfl, h⟩))
theorem wr_this (hρ : ρ[2]? = some (.int k)) (h : WR G K_law_deed a ρ σ X) (hkj : ((k : Int) == j) = true := by rfl) : WR G K_law_deed (.If (.Compare (.Name "_law_way" q) [.Eq] [.Constant (.int j) kc pc] p) a [] pe :: ss) ρ σ X :=
  wr_if (b := true) (Tr.to (tr_cmp (ev_var 2 hρ) ev_int cm_eqi) hkj) (fun _ => h) nofun
theorem ws_skip (hρ : ρ[2]? = some (.int k)) (h : WS G K_law_deed ss ρ σ Q) (hkj : ((k : Int) == j) = false := by rfl) : WS G K_law_deed (.If (.Compare (.Name "_law_way" q) [.Eq] [.Constant (.int j) kc pc] p) a [] pe :: ss) ρ σ Q :=
  ws_if (b := false) (Tr.to (tr_cmp (ev_var 2 hρ) ev_int cm_eqi) hkj) nofun fun _ => ws_nil h
theorem ws_this (hρ : ρ[2]? = some (.int k)) (h : WS G K_law_deed a ρ σ (Kc G K_law_deed ss Q)) (hkj : ((k : Int) == j) = true := by rfl) : WS G K_law_deed (.If (.Compare (.Name "_law_way" q) [.Eq] [.Constant (.int j) kc pc] p) a [] pe :: ss) ρ σ Q :=
  ws_if (b := true) (Tr.to (tr_cmp (ev_var 2 hρ) ev_int cm_eqi) hkj) (fun _ => h) nofun
abbrev ρD (C dx : Addr) (c : Int) (k : Nat) (rs : List Rw) (one other : V) (num : Int) (pv : V) : List V := [trl C dx, .int c, .int k, .lst ((rs.map (·.1)).map .str), one, other, .int num, pv]
def TB : List Stmt := match B_law_deed.drop 6 with
  | .Try b _ _ _ _ :: _ => b
  | _ => []
theorem σB_dx {k : V} (hne : dx ≠ b) : σB dx b k ps dx = some (.tr false k b) := (Ow.put_ne _ _ hne).trans (Ow.put_self ..)
theorem no_of {x : Str} (X0 : XC G x X) {T : Addr} (XT : XC G "TrailError" T) (hm : mroAt G.mg G.B x "TrailError") {k : V} (h : WR G K_law_deed TB ρ (σB dx b k ps) X) : WS G K_law_deed (B_law_deed.drop 6) ρ (σB dx b k ps) (retQ (.bool false)) :=
  ws_try0 h X0 XT hm fun _ _ => .id _
theorem yes_of {R : V → V → List V → Prop} (h : WS G K_law_deed TB ρ σ fun fl ρ' σ' => fl = .next ∧ ∃ k' ps', σ' dx = some (.tr true k' b) ∧ σ' b = some (.lst ps') ∧ R (.bool true) k' ps') : WS G K_law_deed (B_law_deed.drop 6) ρ σ (trQ dx b R) :=
  ws_try_ok (ws_mono h fun fl ρ' σ' q => by
    obtain ⟨rfl, k', ps', h1, h2, h3⟩ := q
    exact ws_ret ev_bool ⟨k', ps', h1, h2, h3⟩)
theorem no_keep (D : CD G C N mN fm) (hne : dx ≠ b) (hd : 120 ≤ G.d) {one other : V} {num : Int} {pv k : V} (ho : one.ok = true) (body : WR G.dn K_Trail_keep B_Trail_keep [trl C dx, one, .int num, .unb] (σR dx b k) X) : WR G K_law_deed TB (ρD C dx c 0 rs one other num pv) (σB dx b k ps) X :=
  wr_this rfl (wr_meth D.m.t D.m.keep (σB_dx hne) (ev_var 0 rfl) (evl_cons (ev_var 4 rfl ho) (evl_cons (ev_var 6 rfl) evl_nil)) rfl (by (exact a448 hd)) body)
theorem yes_keep (D : CD G C N mN fm) (hne : dx ≠ b) (R : Kp100 rs) (hc : wayOf c = 0) {n : List Nat} (hn : okN n = true) (hok : (!(foundV n rs).nn && decide ((100 : Int) ≤ rs.length)) = false) (hps : ps.length ≤ 1000) (hd : 120 ≤ G.d) {other : V} {num : Int} {pv : V} : WS G K_law_deed (B_law_deed.drop 6) (ρD C dx c 0 rs (.str n) other num pv) (σT σ0 dx b (treeV 50 rs) ps) (trQ dx b fun x k' ps' => x = .bool true ∧ Step c rs ps k' ps') := by
  refine yes_of (ws_this rfl (ws_exprM (evm_meth D.m.t D.m.keep (σT_dx hne) σT_b hne (ev_var 0 rfl) (evl_cons (ev_var 4 rfl) (evl_cons (ev_var 6 rfl) evl_nil)) rfl (by omega) (b_keep D.m.dn hne R.r hn hok hps (by show 70 ≤ G.d - 1; omega))) ?_))
  rintro x σ' ⟨k', ps', ⟨rfl, rfl⟩, rfl⟩
  refine ws_nil (ws_skip rfl (ws_skip rfl (ws_skip rfl (ws_skip rfl (ws_skip rfl (ws_nil ⟨rfl, _, _, σT_dx hne, σT_b, rfl, .inr ⟨?_, rfl, _, keep_rows R hn hok, rfl⟩⟩))))))
  exact fun e => absurd ((way_get c).2.2.2.2.mpr e) (by rw [hc]; decide)
theorem not9 {k : Nat} (hc : wayOf c = k) (hk : k ≠ 5) : c % 10 ≠ 9 := fun e => hk (hc ▸ (way_get c).2.2.2.2.mpr e)
theorem no_drop (D : CD G C N mN fm) (hne : dx ≠ b) (hd : 120 ≤ G.d) {one other : V} {num : Int} {pv k : V} (ho : one.ok = true) (body : WR G.dn K_Trail_drop B_Trail_drop [trl C dx, one, .unb] (σR dx b k) X) : WR G K_law_deed TB (ρD C dx c 1 rs one other num pv) (σB dx b k ps) X :=
  wr_skip rfl (wr_this rfl (wr_meth D.m.t D.m.drop (σB_dx hne) (ev_var 0 rfl) (evl_cons (ev_var 4 rfl ho) evl_nil) rfl (by (exact a448 hd)) body))
theorem yes_drop (D : CD G C N mN fm) (hne : dx ≠ b) (R : Kp100 rs) (hc : wayOf c = 1) {n : List Nat} (hn : okN n = true) (h : ∃ r ∈ rs, r.1 = n) (hps : ps.length ≤ 1000) (hd : 120 ≤ G.d) {other : V} {num : Int} {pv : V} : WS G K_law_deed (B_law_deed.drop 6) (ρD C dx c 1 rs (.str n) other num pv) (σT σ0 dx b (treeV 50 rs) ps) (trQ dx b fun x k' ps' => x = .bool true ∧ Step c rs ps k' ps') := by
  refine yes_of (ws_skip rfl (ws_this rfl (ws_exprM (evm_meth D.m.t D.m.drop (σT_dx hne) σT_b hne (ev_var 0 rfl) (evl_cons (ev_var 4 rfl) evl_nil) rfl (by (exact a448 hd)) (b_drop D.m.dn hne R.r hn h hps (by show 70 ≤ G.d - 1; (exact a450 hd)))) ?_)))
  rintro x σ' ⟨k', ps', ⟨rfl, rfl⟩, rfl⟩
  exact ws_nil (ws_skip rfl (ws_skip rfl (ws_skip rfl (ws_skip rfl (ws_nil ⟨rfl, _, _, σT_dx hne, σT_b, rfl, .inr ⟨not9 hc (by decide), rfl, _, rows_filter R _, rfl⟩⟩)))))
theorem no_prune (D : CD G C N mN fm) (hne : dx ≠ b) (hd : 120 ≤ G.d) {one other : V} {num : Int} {pv k : V} (ho : one.ok = true) (body : WR G.dn K_Trail_prune B_Trail_prune [trl C dx, one, .unb] (σR dx b k) X) : WR G K_law_deed TB (ρD C dx c 2 rs one other num pv) (σB dx b k ps) X :=
  wr_skip rfl (wr_skip rfl (wr_this rfl (wr_meth D.m.t D.m.prune (σB_dx hne) (ev_var 0 rfl) (evl_cons (ev_var 4 rfl ho) evl_nil) rfl (by (exact a448 hd)) body)))
theorem yes_prune (D : CD G C N mN fm) (hne : dx ≠ b) (R : Kp100 rs) (hc : wayOf c = 2) {n : List Nat} (hn : okN n = true) (h : belowR n rs ≠ []) (hps : ps.length ≤ 1000) (hd : 120 ≤ G.d) {other : V} {num : Int} {pv : V} : WS G K_law_deed (B_law_deed.drop 6) (ρD C dx c 2 rs (.str n) other num pv) (σT σ0 dx b (treeV 50 rs) ps) (trQ dx b fun x k' ps' => x = .bool true ∧ Step c rs ps k' ps') := by
  refine yes_of (ws_skip rfl (ws_skip rfl (ws_this rfl (ws_exprM (evm_meth D.m.t D.m.prune (σT_dx hne) σT_b hne (ev_var 0 rfl) (evl_cons (ev_var 4 rfl) evl_nil) rfl (by (exact a448 hd)) (b_prune D.m.dn hne R.r hn h hps (by show 80 ≤ G.d - 1; (exact a516 hd)))) ?_))))
  rintro x σ' ⟨k', ps', ⟨rfl, rfl⟩, rfl⟩
  exact ws_nil (ws_skip rfl (ws_skip rfl (ws_skip rfl (ws_nil ⟨rfl, _, _, σT_dx hne, σT_b, rfl, .inr ⟨not9 hc (by decide), rfl, _, rows_filter R _, rfl⟩⟩))))
theorem fresh_len {n o : List Nat} (h : ∀ r ∈ belowR n rs, ¬ tooLong n o r) : ∀ r ∈ freshR n o rs, r.1.length ≤ 40 := fun r hr => by
  obtain ⟨q, hq, rfl⟩ := List.mem_map.mp hr
  obtain ⟨u, hu, rfl⟩ := List.mem_map.mp hq
  have h1 := h u hu
  have hp := (List.isPrefixOf_iff_prefix.mp (List.mem_filter.mp hu).2).length_le
  show (o ++ u.1.drop n.length).length ≤ 40
  rw [List.length_append, List.length_drop]
  unfold tooLong at h1
  (exact a476 hp h1)
theorem all_drop {n : Nat} {a : List Nat} (h : a.all okS = true) : (a.drop n).all okS = true := List.all_eq_true.mpr fun x hx => List.all_eq_true.mp h x (List.mem_of_mem_drop hx)
theorem all_take {n : Nat} {a : List Nat} (h : a.all okS = true) : (a.take n).all okS = true := List.all_eq_true.mpr fun x hx => List.all_eq_true.mp h x (List.mem_of_mem_take hx)
theorem fresh_ok {n o : List Nat} (h : ∀ r ∈ rs, r.1.all okS = true) (ho : o.all okS = true) : ∀ r ∈ freshR n o rs, r.1.all okS = true := fun r hr => by
  obtain ⟨q, hq, rfl⟩ := List.mem_map.mp hr
  obtain ⟨u, hu, rfl⟩ := List.mem_map.mp hq
  show (o ++ u.1.drop n.length).all okS = true
  rw [List.all_append, ho, all_drop (h u (List.mem_filter.mp hu).1)]; rfl
theorem fresh_num {n o : List Nat} : (freshR n o rs).length = (belowR n rs).length := by unfold freshR goneR; rw [List.length_map, List.length_map]; rfl
theorem part_num (n : List Nat) (rs : List Rw) : (stayR n rs).length + (belowR n rs).length = rs.length := by
  unfold stayR belowR
  induction rs with
  | nil => rfl
  | cons r l ih =>
    rw [List.filter_cons, List.filter_cons]
    cases n.isPrefixOf r.1
    · simp only [Bool.not_false, if_true, Bool.false_eq_true, if_false, List.length_cons]; (exact a478 ih)
    · simp only [Bool.not_true, if_true, Bool.false_eq_true, if_false, List.length_cons]; (exact a479 ih)
theorem two_rows {st : List Rw} {n o : List Nat} (S : Kp100 st) (R : Kp100 rs) (ho : okN o = true) (hl : ∀ r ∈ belowR n rs, ¬ tooLong n o r) (hh : hit st (freshR n o rs) = false) (hn : st.length + (belowR n rs).length ≤ 100) : Kp100 (sortR (st ++ freshR n o rs)) ∧ treeV 100 (sortR (st ++ freshR n o rs)) = treeV 50 (sortR (st ++ freshR n o rs)) := by
  have T := fresh_two (b := n) S.r R.r (okN_40 ho)
  have hlen : (st ++ freshR n o rs).length ≤ 100 := by rw [List.length_append, fresh_num]; exact hn
  have RR : Rows (sortR (st ++ freshR n o rs)) := sortR_rows (T.dst (hit_no hh)) (fun r hr => (List.mem_append.mp hr).elim (S.r.len r) (fresh_len hl r)) (Nat.le_trans hlen (by decide))
  exact ⟨⟨RR, by rw [(sortR_perm _).length_eq]; exact hlen, fun r hr => (List.mem_append.mp ((sortR_perm _).mem_iff.mp hr)).elim (S.ok r) (fresh_ok (fun r hr => R.ok r hr) (Bool.and_eq_true_iff.mp ho).2 r)⟩, treeV_eq _ _ (RR.good (by decide) (by decide)) (RR.good (by decide) (by decide))⟩
theorem no_move (D : CD G C N mN fm) (hne : dx ≠ b) (hd : 130 ≤ G.d) {one other : V} {num : Int} {pv k : V} (ho : one.ok = true) (hoo : other.ok = true) (body : WR G.dn K_Trail_move B_Trail_move [trl C dx, one, other, .unb] (σR dx b k) X) : WR G K_law_deed TB (ρD C dx c 3 rs one other num pv) (σB dx b k ps) X :=
  wr_skip rfl (wr_skip rfl (wr_skip rfl (wr_this rfl (wr_meth D.m.t D.m.move (σB_dx hne) (ev_var 0 rfl) (evl_cons (ev_var 4 rfl ho) (evl_cons (ev_var 5 rfl hoo) evl_nil)) rfl (by (exact a521 hd)) body))))
theorem yes_move (D : CD G C N mN fm) (hne : dx ≠ b) (R : Kp100 rs) (hc : wayOf c = 3) {n o : List Nat} (hn : okN n = true) (ho : okN o = true) (h : belowR n rs ≠ []) (hl : ∀ r ∈ belowR n rs, ¬ tooLong n o r) (hh : hit (stayR n rs) (freshR n o rs) = false) (hps : ps.length ≤ 1000) (hd : 130 ≤ G.d) {num : Int} {pv : V} : WS G K_law_deed (B_law_deed.drop 6) (ρD C dx c 3 rs (.str n) (.str o) num pv) (σT σ0 dx b (treeV 50 rs) ps) (trQ dx b fun x k' ps' => x = .bool true ∧ Step c rs ps k' ps') := by
  obtain ⟨RR, et⟩ := two_rows (n := n) (o := o) (rows_filter R fun r => !n.isPrefixOf r.1) R ho hl hh (by have := part_num n rs; have := R.n; show (stayR n rs).length + _ ≤ _; omega)
  refine yes_of (ws_skip rfl (ws_skip rfl (ws_skip rfl (ws_this rfl (ws_exprM (evm_meth D.m.t D.m.move (σT_dx hne) σT_b hne (ev_var 0 rfl) (evl_cons (ev_var 4 rfl) (evl_cons (ev_var 5 rfl) evl_nil)) rfl (by omega) (b_move D.m.dn hne R.r hn ho h hl hh hps (by show 120 ≤ G.d - 1; omega))) ?_)))))
  rintro x σ' ⟨k', ps', ⟨rfl, rfl⟩, rfl⟩
  exact ws_nil (ws_skip rfl (ws_skip rfl (ws_nil ⟨rfl, _, _, σT_dx hne, σT_b, rfl, .inr ⟨not9 hc (by decide), rfl, _, RR, et⟩⟩)))
theorem no_graft (D : CD G C N mN fm) (hne : dx ≠ b) (hd : 130 ≤ G.d) {one other : V} {num : Int} {pv k : V} (ho : one.ok = true) (hoo : other.ok = true) (body : WR G.dn K_Trail_graft B_Trail_graft [trl C dx, one, other, .unb, .unb] (σR dx b k) X) : WR G K_law_deed TB (ρD C dx c 4 rs one other num pv) (σB dx b k ps) X :=
  wr_skip rfl (wr_skip rfl (wr_skip rfl (wr_skip rfl (wr_this rfl (wr_meth D.m.t D.m.graft (σB_dx hne) (ev_var 0 rfl) (evl_cons (ev_var 4 rfl ho) (evl_cons (ev_var 5 rfl hoo) evl_nil)) rfl (by (exact a521 hd)) body)))))
theorem yes_graft (D : CD G C N mN fm) (hne : dx ≠ b) (R : Kp100 rs) (hc : wayOf c = 4) {n o : List Nat} (hn : okN n = true) (ho : okN o = true) (h : belowR n rs ≠ []) (hl : ∀ r ∈ belowR n rs, ¬ tooLong n o r) (hh : hit rs (freshR n o rs) = false) (hf : ¬ (100 : Int) < (rs.length : Int) + (belowR n rs).length) (hps : ps.length ≤ 1000) (hd : 130 ≤ G.d) {num : Int} {pv : V} : WS G K_law_deed (B_law_deed.drop 6) (ρD C dx c 4 rs (.str n) (.str o) num pv) (σT σ0 dx b (treeV 50 rs) ps) (trQ dx b fun x k' ps' => x = .bool true ∧ Step c rs ps k' ps') := by
  obtain ⟨RR, et⟩ := two_rows (n := n) (o := o) R R ho hl hh (by omega)
  refine yes_of (ws_skip rfl (ws_skip rfl (ws_skip rfl (ws_skip rfl (ws_this rfl (ws_exprM (evm_meth D.m.t D.m.graft (σT_dx hne) σT_b hne (ev_var 0 rfl) (evl_cons (ev_var 4 rfl) (evl_cons (ev_var 5 rfl) evl_nil)) rfl (by omega) (b_graft D.m.dn hne R.r hn ho h hl hh hf hps (by show 120 ≤ G.d - 1; omega))) ?_))))))
  rintro x σ' ⟨k', ps', ⟨rfl, rfl⟩, rfl⟩
  exact ws_nil (ws_skip rfl (ws_nil ⟨rfl, _, _, σT_dx hne, σT_b, rfl, .inr ⟨not9 hc (by decide), rfl, _, RR, et⟩⟩))
theorem Ro.same {σ : Ow} (h : ∀ a c, σ a = some c → c.rw = false) : Ro σ σ := fun a c q => ⟨h a c q, c, q, fun _ _ r => r⟩
theorem σB_ro {k : V} : ∀ a c, σB dx b k ps a = some c → c.rw = false := fun a c q => by
  by_cases h : a = b
  · subst h; cases (Ow.put_self ..).symm.trans q; rfl
  · exact ro_one a c ((Ow.put_ne _ _ h).symm.trans q)
theorem no_back (D : CD G C N mN fm) (hX : XC G "NothingDone" X) (hne : dx ≠ b) (hd : 130 ≤ G.d) {one other : V} {num : Int} {pv k : V} : WR G K_law_deed TB (ρD C dx c 5 rs one other num pv) (σB dx b k []) X :=
  wr_skip rfl (wr_skip rfl (wr_skip rfl (wr_skip rfl (wr_skip rfl (wr_this rfl (wr_methR D.m.t D.m.back (σB_dx hne) (Ro.same σB_ro) (ev_var 0 rfl) evl_nil rfl (by (exact a521 hd)) (z_back D.m.dn hX hne)))))))
theorem yes_back (D : CD G C N mN fm) (hne : dx ≠ b) (hc : wayOf c = 5) {rs' : List Rw} (hps : ps.length ≤ 1000) (hd : 130 ≤ G.d) {one other : V} {num : Int} {pv : V} : WS G K_law_deed (B_law_deed.drop 6) (ρD C dx c 5 rs one other num pv) (σT σ0 dx b (treeV 50 rs) (ps ++ [treeV 50 rs'])) (trQ dx b fun x k' ps' => x = .bool true ∧ Step c rs (ps ++ [treeV 50 rs']) k' ps') := by
  refine yes_of (ws_skip rfl (ws_skip rfl (ws_skip rfl (ws_skip rfl (ws_skip rfl (ws_this rfl (ws_exprM (evm_meth D.m.t D.m.back (σT_dx hne) σT_b hne (ev_var 0 rfl) evl_nil rfl (by (exact a521 hd)) (b_back D.m.dn hne hps)) ?_)))))))
  rintro x σ' ⟨k', ps', ⟨_, rfl, rfl⟩, rfl⟩
  exact ws_nil (ws_nil ⟨rfl, _, _, σT_dx hne, σT_b, rfl, .inl ⟨(way_get c).2.2.2.2.mp hc, rfl⟩⟩)
end
end Mine

set_option autoImplicit false
set_option linter.all false
set_option maxRecDepth 100000
namespace Mine
open PySem PySem.W PyProof.Rows
section
variable {G : Gl} {C N dx b : Addr} {mN : Str → Option Value} {fm : Str → Addr} {rs : List Rw} {pss : List (List Rw)} {c : Int}
theorem deed_or (D : CD G C N mN fm) (X : CX G) (hne : dx ≠ b) (R : Kp100 rs) (hps : pss.length ≤ 1000) (hd : 130 ≤ G.d) :
    (True ∧ WS G K_law_deed B_law_deed [trl C dx, .int c, .unb, .unb, .unb, .unb, .unb, .unb] (σB dx b (treeV 50 rs) (pss.map (treeV 50))) (retQ (.bool false))) ∨
    (True ∧ WS G K_law_deed B_law_deed [trl C dx, .int c, .unb, .unb, .unb, .unb, .unb, .unb] (σT σ0 dx b (treeV 50 rs) (pss.map (treeV 50))) (trQ dx b fun x k' ps' => x = .bool true ∧ Step c rs (pss.map (treeV 50)) k' ps')) := by
  have hl : ∀ t ∈ rs.map (·.1), t.length ≤ 40 := fun t ht => by obtain ⟨r, hr, rfl⟩ := List.mem_map.mp ht; exact R.r.len r hr
  obtain ⟨ok1, T1⟩ := textV_tx (c := c / 10) hl
  obtain ⟨ok2, T2⟩ := otherV_tx (c := c) hl
  obtain ⟨T, hT⟩ := X.te
  have hpl : (pss.map (treeV 50)).length ≤ 1000 := by rw [List.length_map]; exact hps
  have no : ∀ {x : Str} {Xa : Addr}, XC G x Xa → mroAt G.mg G.B x "TrailError" → (∀ num pv, WR G K_law_deed TB (ρD C dx c (wayOf c) rs (textV (c / 10) (rs.map (·.1))) (otherV c (rs.map (·.1))) num pv) (σB dx b (treeV 50 rs) (pss.map (treeV 50))) Xa) →
      (True ∧ WS G K_law_deed B_law_deed [trl C dx, .int c, .unb, .unb, .unb, .unb, .unb, .unb] (σB dx b (treeV 50 rs) (pss.map (treeV 50))) (retQ (.bool false))) := fun h0 hm h => deed_pre D R.r (σB_dx hne) (by (exact a480 hd)) fun num pv => no_of h0 hT hm (h num pv)
  have yes : (∀ num pv, WS G K_law_deed (B_law_deed.drop 6) (ρD C dx c (wayOf c) rs (textV (c / 10) (rs.map (·.1))) (otherV c (rs.map (·.1))) num pv) (σT σ0 dx b (treeV 50 rs) (pss.map (treeV 50))) (trQ dx b fun x k' ps' => x = .bool true ∧ Step c rs (pss.map (treeV 50)) k' ps')) →
      (True ∧ WS G K_law_deed B_law_deed [trl C dx, .int c, .unb, .unb, .unb, .unb, .unb, .unb] (σT σ0 dx b (treeV 50 rs) (pss.map (treeV 50))) (trQ dx b fun x k' ps' => x = .bool true ∧ Step c rs (pss.map (treeV 50)) k' ps')) := fun h => deed_pre D R.r (σT_dx hne) (by (exact a480 hd)) h
  generalize textV (c / 10) (rs.map (·.1)) = one at T1 no yes
  generalize otherV c (rs.map (·.1)) = other at T2 no yes
  have hw := (way_get c).2.2.2.1
  have hcases : wayOf c = 0 ∨ wayOf c = 1 ∨ wayOf c = 2 ∨ wayOf c = 3 ∨ wayOf c = 4 ∨ wayOf c = 5 := by (exact a485 hw)
  have d1 : 129 ≤ G.dn.d := by show 129 ≤ G.d - 1; (exact a487 hd)
  obtain ⟨Xn, hXn⟩ := X.nn
  obtain ⟨Xt, hXt⟩ := X.nt
  obtain ⟨Xk, hXk⟩ := X.tk
  obtain ⟨Xl, hXl⟩ := X.tl
  obtain ⟨Xm, hXm⟩ := X.tm
  obtain ⟨Xd, hXd⟩ := X.nd
  rcases hcases with hc | hc | hc | hc | hc | hc <;> rw [hc] at no yes
  · cases ok1 with
    | false => exact .inl (no hXn X.m1 fun num pv => no_keep D hne (by (exact a489 hd)) T1.ok (z_keep1 D.m.dn hXn T1 (by (exact a493 d1))))
    | true =>
      obtain ⟨n, rfl, h40, hn⟩ := T1.name
      cases hok : (!(foundV n rs).nn && decide ((100 : Int) ≤ rs.length)) with
      | true => exact .inl (no hXm X.m5 fun num pv => no_keep D hne (by (exact a489 hd)) rfl (z_keep2 D.m.dn hXm R.r hn hok (by (exact a494 d1))))
      | false => exact .inr (yes fun num pv => yes_keep D hne R hc hn hok hpl (by (exact a489 hd)))
  · cases ok1 with
    | false => exact .inl (no hXn X.m1 fun num pv => no_drop D hne (by (exact a489 hd)) T1.ok (z_drop1 D.m.dn hXn T1 (by (exact a493 d1))))
    | true =>
      obtain ⟨n, rfl, h40, hn⟩ := T1.name
      by_cases h : ∃ r ∈ rs, r.1 = n
      · exact .inr (yes fun num pv => yes_drop D hne R hc hn h hpl (by (exact a489 hd)))
      · exact .inl (no hXt X.m2 fun num pv => no_drop D hne (by (exact a489 hd)) rfl (z_drop2 D.m.dn hXt R.r hn (fun r hr e => h ⟨r, hr, e⟩) (by (exact a494 d1))))
  · cases ok1 with
    | false => exact .inl (no hXn X.m1 fun num pv => no_prune D hne (by (exact a489 hd)) T1.ok (z_prune1 D.m.dn hXn T1 (by (exact a493 d1))))
    | true =>
      obtain ⟨n, rfl, h40, hn⟩ := T1.name
      by_cases h : belowR n rs = []
      · exact .inl (no hXt X.m2 fun num pv => no_prune D hne (by (exact a489 hd)) rfl (z_prune2 D.m.dn hXt R.r hn h (by (exact a507 d1))))
      · exact .inr (yes fun num pv => yes_prune D hne R hc hn h hpl (by (exact a489 hd)))
  · cases ok1 with
    | false => exact .inl (no hXn X.m1 fun num pv => no_move D hne hd T1.ok T2.ok (z_move1 D.m.dn hXn T1 T2.ok (by (exact a493 d1))))
    | true =>
      obtain ⟨n, rfl, h40, hn⟩ := T1.name
      cases ok2 with
      | false => exact .inl (no hXn X.m1 fun num pv => no_move D hne hd rfl T2.ok (z_move2 D.m.dn hXn hn T2 (by (exact a493 d1))))
      | true =>
        obtain ⟨o, rfl, h40', ho⟩ := T2.name
        by_cases h : belowR n rs = []
        · exact .inl (no hXt X.m2 fun num pv => no_move D hne hd rfl rfl (z_move3 D.m.dn hXt R.r hn ho h (by (exact a512 d1))))
        · by_cases hl' : ∃ r ∈ belowR n rs, tooLong n o r
          · exact .inl (no hXl X.m4 fun num pv => no_move D hne hd rfl rfl (z_move4 D.m.dn hXl R.r hn ho h hl' (by (exact a512 d1))))
          · have hl' : ∀ r ∈ belowR n rs, ¬ tooLong n o r := fun r hr q => hl' ⟨r, hr, q⟩
            cases hh : hit (stayR n rs) (freshR n o rs) with
            | true => exact .inl (no hXk X.m3 fun num pv => no_move D hne hd rfl rfl (z_move5 D.m.dn hXk R.r hn ho h hl' hh (by (exact a512 d1))))
            | false => exact .inr (yes fun num pv => yes_move D hne R hc hn ho h hl' hh hpl hd)
  · cases ok1 with
    | false => exact .inl (no hXn X.m1 fun num pv => no_graft D hne hd T1.ok T2.ok (z_graft1 D.m.dn hXn T1 (by (exact a493 d1))))
    | true =>
      obtain ⟨n, rfl, h40, hn⟩ := T1.name
      cases ok2 with
      | false => exact .inl (no hXn X.m1 fun num pv => no_graft D hne hd rfl T2.ok (z_graft2 D.m.dn hXn hn T2 (by (exact a493 d1))))
      | true =>
        obtain ⟨o, rfl, h40', ho⟩ := T2.name
        by_cases h : belowR n rs = []
        · exact .inl (no hXt X.m2 fun num pv => no_graft D hne hd rfl rfl (z_graft3 D.m.dn hXt R.r hn ho h (by (exact a512 d1))))
        · by_cases hl' : ∃ r ∈ belowR n rs, tooLong n o r
          · exact .inl (no hXl X.m4 fun num pv => no_graft D hne hd rfl rfl (z_graft4 D.m.dn hXl R.r hn ho h hl' (by (exact a512 d1))))
          · have hl' : ∀ r ∈ belowR n rs, ¬ tooLong n o r := fun r hr q => hl' ⟨r, hr, q⟩
            cases hh : hit rs (freshR n o rs) with
            | true => exact .inl (no hXk X.m3 fun num pv => no_graft D hne hd rfl rfl (z_graft5 D.m.dn hXk R.r hn ho h hl' hh (by (exact a512 d1))))
            | false =>
              by_cases hf : (100 : Int) < (rs.length : Int) + (belowR n rs).length
              · exact .inl (no hXm X.m5 fun num pv => no_graft D hne hd rfl rfl (z_graft6 D.m.dn hXm R.r hn ho h hl' hh hf (by (exact a512 d1))))
              · exact .inr (yes fun num pv => yes_graft D hne R hc hn ho h hl' hh hf hpl hd)
  · rcases last_cases pss with rfl | ⟨qs, q, rfl⟩
    · exact .inl (no hXd X.m6 fun num pv => no_back D hXd hne hd)
    · rw [List.length_append] at hps
      rw [List.map_append] at yes ⊢
      exact .inr (yes fun num pv => yes_back D hne hc (by rw [List.length_map]; (exact a537 hps)) hd)
end
end Mine

set_option autoImplicit false
set_option linter.all false
set_option maxRecDepth 100000
namespace Mine
open PySem PySem.W PyProof.Rows
theorem end_group {k : Nat} {rs : List Rw} (P : Pre k rs) {g : List Nat × List Rw} (hg : g ∈ groups k rs) (h : g.1 = []) : ∃ v, g.2.map (cutR k) = [([], v)] := by
  obtain ⟨h0, hm⟩ := groups_mem k rs g hg
  have hs : Srt g.2 := by rw [← filter_group P hg]; exact P.srt.filter _
  have hd : ∀ r ∈ g.2, r.1.drop k = [] := fun r hr => by
    have e := hm r hr
    rw [h] at e
    unfold sg at e
    cases hc : r.1.drop k with
    | nil => rfl
    | cons x xs => rw [hc] at e; cases e
  have he : ∀ r ∈ g.2, r.1.take k = r.1 := fun r hr => by
    have := List.take_append_drop k r.1
    rw [hd r hr, List.append_nil] at this
    exact this
  match hg2 : g.2, h0 with
  | [r], _ =>
    have hr : r ∈ g.2 := by rw [hg2]; exact List.mem_singleton.mpr rfl
    refine ⟨r.2, ?_⟩
    show [((r.1.drop (k + 1), r.2) : Rw)] = _
    rw [← List.drop_drop, hd r hr]; rfl
  | a :: b :: t, _ =>
    have ha : a ∈ g.2 := by rw [hg2]; exact List.mem_cons_self ..
    have hb : b ∈ g.2 := by rw [hg2]; exact List.mem_cons_of_mem _ (List.mem_cons_self ..)
    have e : a.1 = b.1 := by rw [← he a ha, ← he b hb]; exact P.pre a (mem_flat hg ha) b (mem_flat hg hb)
    rw [hg2] at hs
    have l := (List.pairwise_cons.mp hs).1 b (List.mem_cons_self ..)
    rw [e] at l
    exact absurd l (List.lt_irrefl _)
theorem group_pre {k : Nat} {rs : List Rw} (P : Pre k rs) {a : Rw} (ha : a ∈ rs) {g : List Nat × List Rw} (hg : g ∈ groups k rs) (t : List Nat) : (g.2.map (cutR k)).map (preR (t ++ a.1.take k ++ g.1)) = g.2.map (preR t) := by
  have hm := groups_mem k rs g hg
  rw [List.map_map]
  refine List.map_congr_left fun r hr => ?_
  have hra : r.1.take k = a.1.take k := P.pre r (mem_flat hg hr) a ha
  have := parts k r.1
  have hsg := hm.2 r hr
  unfold sg at hsg
  rw [hsg, hra] at this
  show ((t ++ a.1.take k ++ g.1 ++ r.1.drop (k + 1), r.2) : Rw) = (t ++ r.1, r.2)
  rw [← this]
  simp only [List.append_assoc, this]
section
variable {G : Gl}
theorem c_is_end (FA : A_law_is_end G) {f k : Nat} {rs : List Rw} (P : Pre k rs) {g : List Nat × List Rw} (hg : g ∈ groups k rs) (hf : Good f (g.2.map (cutR k))) (hd : 0 < G.d) : Pure G "_law_is_end" [brV f k g] (.bool true) := by
  refine pure_of FA rfl hd (ws_ret (Ev.to (ev_bop (evb_or (c := true) (ev_cmp (ev_idxt (ev_var 0 rfl) ev_int (by decide) (by decide) rfl) (ev_lit []) cm_nes) fun h => evb_one ?_)) (by rw [Bool.or_true])) (.id _))
  have h0 : g.1 = [] := by cases hh : g.1 with | nil => rfl | cons x xs => rw [hh] at h; cases h
  obtain ⟨v, e⟩ := end_group P hg h0
  refine ev_cmp (ev_slc2 (x := .str (lit "leaf")) (y := .str []) (z := .int v) (Ev.to (ev_idxt (ev_var 0 rfl) ev_int (by decide) (by decide) rfl) ?_)) (ev_tuple (evl_cons (ev_lit (lit "leaf")) (evl_cons (ev_lit []) evl_nil)) sz2) cm_eq_strs2
  show treeV f _ = _
  rw [e] at hf ⊢
  cases f with
  | zero => exact nomatch hf.zero
  | succ f => rfl
def walkV (f : Nat) (rs : List Rw) (t : List Nat) : V := .tup [.lst ((rs.map (preR t)).map RowV), .lst (((knotsL f rs).map (preR t)).map RowV)]
theorem c_walk : ∀ (f : Nat) {G : Gl} {rs : List Rw} {t : List Nat}, A_law_walk G → A_law_is_end G → A_law_whole G → Good f rs → rs ≠ [] → t.length + 301 * f ≤ 200000 → f + 2 ≤ G.d → Pure G "_law_walk" [treeV f rs, .str t] (walkV f rs t) := by
  intro f
  induction f with
  | zero => intro G rs t FA FE FW hg hn ht hd; exact absurd hg.zero hn
  | succ f ih =>
    intro G rs t FA FE FW hg hn ht hd
    match rs, hg, hn with
    | [r], hg, hn =>
      have hr := hg.len r (by simp)
      have e1 : ∀ {ρ : List V} {σ : Ow} {q q' p p' p'' : Pos} {kc : Nat}, ρ[0]? = some (.tup [.str (lit "leaf"), .str r.1, .int r.2]) → ρ[1]? = some (.str t) → Ev G.dn K_law_walk ρ σ (.BinOp (.Name "_law_start" q) .Add (.Subscript (.Name "_law_tree" q') (.Constant (.int 1) kc p'') p) p') (.str (t ++ r.1)) := fun h0 h1 => ev_adds (ev_var 1 h1) (ev_idxt (ev_var 0 h0) ev_int (by decide) (by decide) rfl) (by rw [szL]; omega)
      refine pure_of FA rfl (by omega) (ws_if (b := false) (Tr.to (tr_bop (trl_or (tr_not (tr_ev (ev_inst 5 is_tup_tuple (ev_var 0 rfl)))) fun _ => trl_or (tr_cmp (ev_lent (ev_var 0 rfl) (lt62 sz3)) ev_int cm_nei) fun _ => trl_one (tr_not (tr_ev (ev_inst 10 is_str_str (ev_idxt (ev_var 0 rfl) ev_int (by decide) (by decide) rfl)))))) rfl) nofun fun _ => ws_nil ?_)
      refine ws_if (b := true) (tr_cmp (ev_idxt (ev_var 0 rfl) ev_int (by decide) (by decide) rfl) (ev_lit (lit "leaf")) cm_eqs) (fun _ => ?_) nofun
      refine ws_if (b := false) (tr_not (b := true) (tr_ev (ev_call (c_whole (G := G.dn) FW (by show 0 < G.d - 1; omega)) (evl_cons (ev_idxt (ev_var 0 rfl) ev_int (by decide) (by decide) rfl) evl_nil)))) nofun fun _ => ws_nil ?_
      exact ws_ret (ev_tuple (evl_cons (ev_list (evl_cons (ev_tuple (evl_cons (e1 rfl rfl) (evl_cons (ev_idxt (ev_var 0 rfl) ev_int (by decide) (by decide) rfl) evl_nil)) sz2) evl_nil) sz1) (evl_cons (ev_list (evl_cons (ev_tuple (evl_cons (e1 rfl rfl) (evl_cons ev_int evl_nil)) sz2) evl_nil) sz1) evl_nil)) sz2) (.id _)
    | a :: b :: rs, hg, hn =>
      have h2 : 2 ≤ (a :: b :: rs).length := by simp
      have F2 := (fork_of hg.srt h2).two
      have hkn := knots_le hg
      rw [← List.length_map (preR t)] at hkn
      unfold walkV
      rw [knots_pre] at hkn ⊢
      have htv : treeV (f + 1) (a :: b :: rs) = .tup [.str (lit "fork"), .str (a.1.take (shareN (a :: b :: rs))), .tup ((groups (shareN (a :: b :: rs)) (a :: b :: rs)).map (brV f (shareN (a :: b :: rs))))] := rfl
      rw [htv]
      have ha : a ∈ a :: b :: rs := by simp
      generalize a :: b :: rs = rs' at *
      have hal := hg.len a ha
      have hfu := hg.fuel
      have P := srt_pre hg.srt
      have hgg : ∀ g ∈ groups (shareN rs') rs', Good f (g.2.map (cutR (shareN rs'))) := fun g h => hg.group h2 h
      have hgn : (groups (shareN rs') rs').length ≤ 1000 := Nat.le_trans (groups_len _ _) hg.num
      have hrn := hg.num
      have hgs := groups_sorted P
      have hfl := groups_flat (shareN rs') rs'
      generalize shareN rs' = k at *
      rw [List.length_cons] at hkn
      have hglen : ((groups k rs').map (brV f k)).length = (groups k rs').length := List.length_map ..
      have e1 : ∀ {ρ : List V} {σ : Ow} {q q' p p' p'' : Pos} {kc : Nat}, ρ[0]? = some (.tup [.str (lit "fork"), .str (a.1.take k), .tup ((groups k rs').map (brV f k))]) → ρ[1]? = some (.str t) → Ev G.dn K_law_walk ρ σ (.BinOp (.Name "_law_start" q) .Add (.Subscript (.Name "_law_tree" q') (.Constant (.int 1) kc p'') p) p') (.str (t ++ a.1.take k)) := fun h0 h1 => ev_adds (ev_var 1 h1) (ev_idxt (ev_var 0 h0) ev_int (by decide) (by decide) rfl) (by rw [szL, List.length_take]; omega)
      refine pure_of FA rfl (by omega) (ws_if (b := false) (Tr.to (tr_bop (trl_or (tr_not (tr_ev (ev_inst 5 is_tup_tuple (ev_var 0 rfl)))) fun _ => trl_or (tr_cmp (ev_lent (ev_var 0 rfl) (lt62 sz3)) ev_int cm_nei) fun _ => trl_one (tr_not (tr_ev (ev_inst 10 is_str_str (ev_idxt (ev_var 0 rfl) ev_int (by decide) (by decide) rfl)))))) rfl) nofun fun _ => ws_nil ?_)
      refine ws_if (tr_cmp (ev_idxt (ev_var 0 rfl) ev_int (by decide) (by decide) rfl) (ev_lit (lit "leaf")) cm_eqs) (fun h => absurd h (by decide +kernel)) fun _ => ws_nil ?_
      refine ws_if (b := false) (Tr.to (tr_bop (trl_or (tr_cmp (ev_idxt (ev_var 0 rfl) ev_int (by decide) (by decide) rfl) (ev_lit (lit "fork")) cm_nes) fun _ => trl_or (tr_not (tr_ev (ev_inst 5 is_tup_tuple (ev_idxt (ev_var 0 rfl) ev_int (by decide) (by decide) rfl)))) fun _ => trl_one (tr_cmp (ev_lent (ev_idxt (ev_var 0 rfl) ev_int (by decide) (by decide) rfl) (by rw [hglen]; omega)) ev_int cm_lt))) ?_) nofun fun _ => ws_nil ?_
      · rw [decide_eq_false (by rw [hglen]; omega)]; decide +kernel
      refine ws_asg 2 (ev_list evl_nil sz0) (ws_asg 3 (ev_list (evl_cons (ev_tuple (evl_cons (e1 rfl rfl) (evl_cons (ev_lent (ev_idxt (ev_var 0 rfl) ev_int (by decide) (by decide) rfl) (by rw [hglen]; omega)) evl_nil)) sz2) evl_nil) sz1) (ws_asg 4 ev_none ?_))
      refine ws_for (fun i ρ σ => σ = σ0 ∧ ∃ lst v w, ρ = [.tup [.str (lit "fork"), .str (a.1.take k), .tup ((groups k rs').map (brV f k))], .str t, .lst (((((groups k rs').take i).flatMap (·.2)).map (preR t)).map RowV), .lst (((t ++ a.1.take k, ((groups k rs').length : Int)) :: ((groups k rs').take i).flatMap fun g => (knotsL f (g.2.map (cutR k))).map (preR (t ++ a.1.take k ++ g.1))).map RowV), lst, v, w] ∧ (lst = .none ∨ ∃ (j : Nat) (g : List Nat × List Rw), j < i ∧ (groups k rs')[j]? = some g ∧ lst = .str g.1))
        (ev_idxt (ev_var 0 rfl) ev_int (by decide) (by decide) rfl) rfl ⟨rfl, .none, .unb, .unb, ?_, .inl rfl⟩ ?_ ?_
      · rw [List.take_zero, hglen]; rfl
      · rintro i ρ σ x hx ⟨rfl, lst, v, w, rfl, hlst⟩
        rw [List.getElem?_map] at hx
        obtain ⟨g, hgi, rfl⟩ := Option.map_eq_some_iff.mp hx
        have hgm := List.mem_of_getElem? hgi
        have hgl := group_sign hgm
        have hf1 := take_flat (fun g : List Nat × List Rw => g.2) hgi
        have hf2 := take_flat (fun g : List Nat × List Rw => (knotsL f (g.2.map (cutR k))).map (preR (t ++ a.1.take k ++ g.1))) hgi
        have hl1 := take_flat_len (fun g : List Nat × List Rw => g.2) (groups k rs') (i + 1)
        have hl2 := take_flat_len (fun g : List Nat × List Rw => (knotsL f (g.2.map (cutR k))).map (preR (t ++ a.1.take k ++ g.1))) (groups k rs') (i + 1)
        rw [hf1, List.length_append, hfl] at hl1
        rw [hf2, List.length_append, List.length_map] at hl2
        have hne : g.2.map (cutR k) ≠ [] := by rw [Ne, List.map_eq_nil_iff]; exact (groups_mem _ _ g hgm).1
        have hbr : brV f k g = .tup [.str g.1, treeV f (g.2.map (cutR k))] := rfl
        refine ⟨_, asg_name 5, ?_⟩
        show WS G.dn K_law_walk _ [_, _, _, _, lst, brV f k g, w] σ0 _
        have tl : ∀ {p₁ p₂ p₃ p₄ p₅ p₆ p₇ p₈ : Pos} {c₁ c₂ : Nat} {r0 r1 r2 r3 r6 : V}, Tr G.dn K_law_walk [r0, r1, r2, r3, lst, brV f k g, r6] σ0 (.BoolOp .And [.Compare (.Name "_law_last" p₁) [.IsNot] [.Constant .none c₁ p₂] p₃, .Compare (.Subscript (.Name "_law_branch" p₄) (.Constant (.int 0) c₂ p₅) p₆) [.LtE] [.Name "_law_last" p₇] p₈] p₁) false := by
          intro p₁ p₂ p₃ p₄ p₅ p₆ p₇ p₈ c₁ c₂ r0 r1 r2 r3 r6
          rcases hlst with rfl | ⟨j, gj, hj, hgj, rfl⟩
          · exact tr_bop (trl_and (b := false) (c := false) (tr_cmp (ev_var 4 rfl) ev_none (cm_isnot cm_is_none)) nofun)
          · have hlt : gj.1 < g.1 := by
              obtain ⟨h1, e1⟩ := List.getElem?_eq_some_iff.mp hgj
              obtain ⟨h2, e2⟩ := List.getElem?_eq_some_iff.mp hgi
              have := List.pairwise_iff_getElem.mp hgs j i h1 h2 hj
              rw [e1, e2] at this
              exact this
            refine Tr.to (tr_bop (trl_and (tr_cmp (ev_var 4 rfl) ev_none (cm_isnot (cm_is_nn rfl))) fun _ => trl_one (tr_cmp (ev_idxt (ev_var 5 rfl) ev_int (by decide) (by decide) rfl) (ev_var 4 rfl) cm_les))) ?_
            rw [decide_eq_true hlt]; rfl
        have hle : ((t ++ a.1.take k).length + g.1.length) ≤ sizeLine := by rw [szL, List.length_append, List.length_take]; omega
        refine ws_if (b := false) (Tr.to (tr_bop (trl_or (tr_not (tr_ev (ev_inst 5 is_tup_tuple (ev_var 5 rfl)))) fun _ => trl_or (tr_cmp (ev_lent (ev_var 5 rfl) (lt62 sz2)) ev_int cm_nei) fun _ => trl_one (tr_not (tr_ev (ev_inst 10 is_str_str (ev_idxt (ev_var 5 rfl) ev_int (by decide) (by decide) rfl)))))) rfl) nofun fun _ => ws_nil ?_
        refine ws_if (b := false) (Tr.to (tr_bop (trl_or (tr_cmp (ev_lens (ev_idxt (ev_var 5 rfl) ev_int (by decide) (by decide) rfl) (by omega)) ev_int cm_gt) fun _ => trl_one tl)) ?_) nofun fun _ => ws_nil ?_
        · rw [decide_eq_false (by omega)]; rfl
        refine ws_asg 4 (ev_idxt (ev_var 5 rfl) ev_int (by decide) (by decide) rfl) (ws_asg 6 (ev_call (ih (G := G.dn) (t := t ++ a.1.take k ++ g.1) FA FE FW (hgg g hgm) hne ?_ (by show f + 2 ≤ G.d - 1; omega)) (evl_cons (ev_idxt (ev_var 5 rfl) ev_int (by decide) (by decide) rfl) (evl_cons (ev_adds (e1 rfl rfl) (ev_idxt (ev_var 5 rfl) ev_int (by decide) (by decide) rfl) hle) evl_nil))) ?_)
        · rw [List.length_append, List.length_append, List.length_take]; omega
        refine ws_if (b := false) (Tr.to (tr_bop (trl_or (tr_cmp (ev_var 6 rfl) ev_none (cm_is_nn rfl)) fun _ => trl_one (tr_not (b := true) (tr_ev (ev_call (c_is_end (G := G.dn) FE P hgm (hgg g hgm) (by show 0 < G.d - 1; omega)) (evl_cons (ev_var 5 rfl) evl_nil)))))) rfl) nofun fun _ => ws_nil ?_
        refine ws_asg 2 (ev_addl (ev_var 2 rfl) (ev_idxt (ev_var 6 rfl) ev_int (by decide) (by decide) rfl) ?_) (ws_asg 3 (ev_addl (ev_var 3 rfl) (ev_idxt (ev_var 6 rfl) ev_int (by decide) (by decide) rfl) ?_) (ws_nil ⟨rfl, .str g.1, brV f k g, walkV f (g.2.map (cutR k)) (t ++ a.1.take k ++ g.1), ?_, .inr ⟨i, g, Nat.lt_succ_self i, hgi, rfl⟩⟩))
        · rw [szL]; simp only [List.length_map]; omega
        · rw [szL]; simp only [List.length_map, List.length_cons]; omega
        · rw [hf1, hf2, ← List.cons_append, List.map_append, List.map_append, List.map_append, ← group_pre P ha hgm]
          rfl
      · rintro ρ σ ⟨rfl, lst, v, w, rfl, _⟩
        refine ws_ret (ev_tuple (evl_cons (ev_var 2 rfl) (evl_cons (ev_var 3 rfl) evl_nil)) sz2) ?_
        rw [hglen, List.take_length, hfl]
        exact .id _
end
end Mine

set_option autoImplicit false
set_option linter.all false
set_option maxRecDepth 100000
namespace Mine
open PySem PySem.W PyProof.Rows
theorem signs_ok : signs.all okS = true := by decide +kernel
theorem sign_ok (c : Int) : okS (signBy c) = true := by
  have h := signs_length
  have m0 := emod_nn c (m := 94) (by decide)
  have m1 := Int.emod_lt_of_pos c (b := 94) (by decide)
  have hl : (c % 94).toNat < signs.length := by rw [h]; omega
  unfold signBy
  rw [List.getD_eq_getElem?_getD, List.getElem?_eq_getElem hl]
  exact List.all_eq_true.mp signs_ok _ (List.getElem_mem hl)
theorem wordGo_ok (c : Int) : ∀ (k : Nat) (n : Int) (w : List Nat), w.all okS = true → (wordGo c k n w).2.all okS = true
  | 0, _, _, h => h
  | k + 1, n, w, h => by show (_ ++ [_]).all okS = true; rw [List.all_append, wordGo_ok c k n w h]; show (okS (signBy _) && true) = true; rw [sign_ok]; rfl
theorem word_ok (c : Int) (n : Nat) : (wordBy c n).all okS = true := wordGo_ok c n c [] rfl
theorem getD_ok {hs : List (List Nat)} (h : ∀ t ∈ hs, t.all okS = true) (i : Nat) : (hs.getD i []).all okS = true := by
  rw [List.getD_eq_getElem?_getD]
  cases e : hs[i]? with
  | none => rfl
  | some t => exact h t (List.mem_of_getElem? e)
theorem str_inj {a b : List Nat} (h : V.str a = .str b) : a = b := by cases h; rfl
theorem textV_name {c : Int} {hs : List (List Nat)} (ho : ∀ t ∈ hs, t.all okS = true) {w : List Nat} (e : textV c hs = .str w) (h1 : w.length ≤ 40) (h2 : 10 ∉ w) (h3 : 9 ∉ w) : okN w = true := by
  have fin : w.all okS = true → okN w = true := fun h => by unfold okN; rw [decide_eq_true h1, h]; rfl
  have hw := wordBy_len c 41
  unfold textV at e
  split at e
  · have m0 := emod_nn (c / 23) (m := 5) (by decide)
    have m1 := Int.emod_lt_of_pos (c / 23) (b := 5) (by decide)
    generalize wordBy c 41 = w' at e hw
    have hk5 : (c / 23 % 5).toNat = 0 ∨ (c / 23 % 5).toNat = 1 ∨ (c / 23 % 5).toNat = 2 ∨ (c / 23 % 5).toNat = 3 ∨ (c / 23 % 5).toNat = 4 := by omega
    rcases hk5 with h | h | h | h | h <;> rw [h] at e
    · rw [← str_inj e] at h2; exact absurd (by decide) h2
    · rw [← str_inj e] at h3; exact absurd (by decide) h3
    · rw [← str_inj e, hw] at h1; omega
    · exact nomatch e
    · exact nomatch e
  · refine fin ?_
    split at e
    · rw [← str_inj e]; exact word_ok _ _
    · split at e
      · rw [← str_inj e]; exact getD_ok ho _
      · split at e
        · rw [← str_inj e]; refine all_take ?_; rw [List.all_append, getD_ok ho, word_ok]; rfl
        · rw [← str_inj e]; exact all_take (getD_ok ho _)
section
variable {G : Gl}
theorem c_start_by (FA : A_law_start_by G) (FT : A_law_text_by G) (FW : A_law_word_by G) (FS : A_law_sign_by G) {c : Int} {hs : List (List Nat)} (hl : ∀ h ∈ hs, h.length ≤ 40) (ho : ∀ t ∈ hs, t.all okS = true) (hn : hs.length ≤ 10000) (hd : 4 ≤ G.d) : ∃ w, okN w = true ∧ Pure G "_law_start_by" [.int c, .lst (hs.map .str)] (.str w) := by
  obtain ⟨ok, T⟩ := textV_tx (c := c) hl
  have ht : Pure G.dn "_law_text_by" [.int c, .lst (hs.map .str)] (textV c hs) := c_text_by (G := G.dn) FT FW FS hl hn (by show 3 ≤ G.d - 1; omega)
  have hN := fun {w : List Nat} => textV_name (c := c) (w := w) ho
  generalize textV c hs = z at T ht hN
  cases T with
  | none => exact ⟨[], rfl, pure_of FA rfl (by omega) (ws_asg 2 (ev_call ht (evl_cons (ev_var 0 rfl) (evl_cons (ev_var 1 rfl) evl_nil))) (ws_if (b := true) (Tr.to (tr_bop (trl_or (c := false) (tr_not (tr_ev (ev_inst 10 is_none_str (ev_var 2 rfl)))) nofun)) rfl) (fun _ => ws_ret (ev_lit []) (.id _)) nofun))⟩
  | int i => exact ⟨[], rfl, pure_of FA rfl (by omega) (ws_asg 2 (ev_call ht (evl_cons (ev_var 0 rfl) (evl_cons (ev_var 1 rfl) evl_nil))) (ws_if (b := true) (Tr.to (tr_bop (trl_or (c := false) (tr_not (tr_ev (ev_inst 10 is_int_str (ev_var 2 rfl)))) nofun)) rfl) (fun _ => ws_ret (ev_lit []) (.id _)) nofun))⟩
  | str w hw =>
    have key : ∀ {u : List Nat}, ((decide ((40 : Int) < w.length) || (decide (10 ∈ w) || decide (9 ∈ w))) = true → u = []) → ((decide ((40 : Int) < w.length) || (decide (10 ∈ w) || decide (9 ∈ w))) = false → u = w) → Pure G "_law_start_by" [.int c, .lst (hs.map .str)] (.str u) := fun {u} h1 h2 =>
      pure_of FA rfl (by omega) (ws_asg 2 (ev_call ht (evl_cons (ev_var 0 rfl) (evl_cons (ev_var 1 rfl) evl_nil))) (ws_if (tr_bop (trl_or (tr_not (tr_ev (ev_inst 10 is_str_str (ev_var 2 rfl)))) fun _ => trl_or (tr_cmp (ev_lens (ev_var 2 rfl) (by omega)) ev_int cm_gt) fun _ => trl_or (tr_cmp (ev_lit [10]) (ev_var 2 rfl) cm_ins) fun _ => trl_one (tr_cmp (ev_lit [9]) (ev_var 2 rfl) cm_ins))) (fun h => ws_ret (ev_lit []) (by cases h1 h; exact .id _)) fun h => ws_nil (ws_ret (ev_var 2 rfl) (by cases h2 h; exact .id _))))
    cases hb : (decide ((40 : Int) < w.length) || (decide (10 ∈ w) || decide (9 ∈ w))) with
    | true => exact ⟨[], rfl, key (fun _ => rfl) fun h => by rw [hb] at h; cases h⟩
    | false =>
      obtain ⟨b1, b2⟩ := Bool.or_eq_false_iff.mp hb
      obtain ⟨b2, b3⟩ := Bool.or_eq_false_iff.mp b2
      exact ⟨w, hN rfl (by have := of_decide_eq_false b1; omega) (of_decide_eq_false b2) (of_decide_eq_false b3), key (fun h => by rw [hb] at h; cases h) fun _ => rfl⟩
end
end Mine

set_option autoImplicit false
set_option linter.all false
set_option maxRecDepth 100000
namespace Mine
open PySem PySem.W PyProof.Rows
structure CL (G : Gl) (C N : Addr) (mN : Str → Option Value) (fm : Str → Addr) : Prop where
  d : CD G C N mN fm
  x : CX G
  alike : A_law_alike G
  whole : A_law_whole G
  gather_knots : A_gather_knots G
  knots : A_knots G
  start : A_law_start_by G
  is_end : A_law_is_end G
  walk : A_law_walk G
  right : A_law_right G
  cell : A_law_cell_at G
theorem CL.dn {G : Gl} {C N : Addr} {mN : Str → Option Value} {fm : Str → Addr} (L : CL G C N mN fm) : CL G.dn C N mN fm := ⟨L.d.dn, L.x.dn, L.alike, L.whole, L.gather_knots, L.knots, L.start, L.is_end, L.walk, L.right, L.cell⟩
theorem rows_pl {rs : List Rw} (h : rs.length ≤ 1000000) : Pl 3 (.lst (rs.map RowV)) := by
  refine .lst _ (by rw [List.length_map, szL]; omega) fun x hx => ?_
  obtain ⟨r, _, rfl⟩ := List.mem_map.mp hx
  refine .tup _ sz2 fun y hy => ?_
  rcases List.mem_cons.mp hy with rfl | hy
  · exact .str _ _
  · rw [List.mem_singleton.mp hy]; exact .int _ _
theorem tree_nn {f : Nat} : ∀ {rs : List Rw}, rs ≠ [] → (treeV (f + 1) rs).nn = true
  | [], h => absurd rfl h
  | [_], _ => rfl
  | _ :: _ :: _, _ => rfl
section
variable {G : Gl} {C N dx b : Addr} {mN : Str → Option Value} {fm : Str → Addr} {rs : List Rw} {st : List Nat}
theorem b_right (L : CL G C N mN fm) (R : Kp100 rs) (hs : okN st = true) (hd : 250 ≤ G.d) : WS G K_law_right B_law_right [trl C dx, .str st, .unb, .unb, .unb, .unb] (σR dx b (treeV 50 rs)) (retQ (.bool true)) := by
  have M := L.d.m
  have al : ∀ {n : Nat} {x : V}, Pl n x → n ≤ 200 → Pure G "_law_alike" [x, x] (.bool true) := fun {n x} h hn => c_alike n L.alike L.whole h (by omega)
  have hn := R.n
  have hg : Good 50 rs := R.r.good (by decide) (by decide)
  have hσ : σR dx b (treeV 50 rs) dx = some (.tr false (treeV 50 rs) b) := σR_dx
  have kn : Pure G "knots" [treeV 50 rs] (.lst ((knotsL 50 rs).map RowV)) := (n_knots L.gather_knots L.knots hg (by omega)).pure
  refine ws_asg 2 (ev_tree M hσ (ev_var 0 rfl) (by omega)) ?_
  by_cases h0 : rs = []
  · subst h0
    exact ws_if (b := true) (tr_cmp (ev_var 2 rfl) ev_none cm_is_none) (fun _ => ws_ret (ev_bop (evb_and (ev_cmp (ev_toldT M R.r hσ (ev_var 0 rfl) (ev_lit []) rfl (by omega)) (ev_list evl_nil sz0) cm_eq_nil) fun _ => evb_one (ev_cmp (ev_call kn (evl_cons (ev_var 2 rfl) evl_nil)) (ev_list evl_nil sz0) cm_eq_nil))) (.id _)) nofun
  have hst := okN_40 hs
  have hkl := knots_le hg
  refine ws_if (b := false) (tr_cmp (ev_var 2 rfl (treeV_ok _ _)) ev_none (cm_is_nn (tree_nn h0))) nofun fun _ => ws_nil ?_
  refine ws_asg 3 (Ev.to (y := .tup [.lst (rs.map RowV), .lst ((knotsL 50 rs).map RowV)]) (ev_call (c_walk 50 (t := []) L.walk L.is_end L.whole hg h0 (by decide) (by omega)) (evl_cons (ev_var 2 rfl (treeV_ok _ _)) (evl_cons (ev_lit []) evl_nil))) (by unfold walkV; rw [pre_nil, pre_nil])) ?_
  refine ws_if (b := false) (Tr.to (tr_bop (trl_or (tr_cmp (ev_var 3 rfl) ev_none (cm_is_nn rfl)) fun _ => trl_one (tr_not (b := true) (tr_ev (ev_call (al (rows_pl (by omega)) (by decide)) (evl_cons ((ev_toldT M R.r hσ (ev_var 0 rfl) (ev_lit []) rfl (by omega)).to (by rw [below_nil])) (evl_cons (ev_idxt (ev_var 3 rfl) ev_int (by decide) (by decide) rfl) evl_nil))))))) rfl) nofun fun _ => ws_nil ?_
  refine ws_for (fun i ρ σ => σ = σR dx b (treeV 50 rs) ∧ ∃ v, ρ = [trl C dx, .str st, treeV 50 rs, .tup [.lst (rs.map RowV), .lst ((knotsL 50 rs).map RowV)], v, .unb]) (ev_range2 ev_int (ev_lenl (ev_idxt (ev_var 3 rfl) ev_int (by decide) (by decide) rfl) (by rw [List.length_map]; omega)) (by decide) (by decide) (by omega) (by rw [List.length_map]; omega)) rfl ⟨rfl, _, rfl⟩ ?_ ?_
  · rintro i ρ σ y hy ⟨rfl, v, rfl⟩
    rw [List.length_map, List.getElem?_map] at hy
    obtain ⟨i', hi', rfl⟩ := Option.map_eq_some_iff.mp hy
    obtain ⟨hi, e⟩ := List.getElem?_eq_some_iff.mp hi'
    rw [List.getElem_range] at e
    subst e
    rw [List.length_range] at hi
    have h1 : i < rs.length := by omega
    have h2 : i + 1 < rs.length := by omega
    have hlt : rs[i].1 < rs[i + 1].1 := List.pairwise_iff_getElem.mp R.r.srt i (i + 1) h1 h2 (Nat.lt_succ_self i)
    refine ⟨_, asg_name 4, ws_if (b := false) (Tr.to (tr_cmp (ev_row0 (r := rs[i]) (ev_idxl (ev_idxt (ev_var 3 rfl) ev_int (by decide) (by decide) rfl) (ev_sub (ev_var 4 rfl) ev_int) (by omega) (by omega) ?_)) (ev_row0 (r := rs[i + 1]) (ev_idxl (ev_idxt (ev_var 3 rfl) ev_int (by decide) (by decide) rfl) (ev_var 4 rfl) (by omega) (by omega) ?_)) cm_ges) (by rw [decide_eq_true hlt]; rfl)) nofun fun _ => ws_nil (ws_nil ⟨rfl, _, rfl⟩)⟩
    · rw [show ((1 : Int) + (i : Int) - 1).toNat = i by omega]; exact row_map rs (List.getElem?_eq_getElem h1)
    · rw [show ((1 : Int) + (i : Int)).toNat = i + 1 by omega]; exact row_map rs (List.getElem?_eq_getElem h2)
  · rintro ρ σ ⟨rfl, v, rfl⟩
    refine ws_if (b := false) (tr_not (b := true) (tr_ev (ev_call (al (rows_pl (by omega)) (by decide)) (evl_cons (ev_call kn (evl_cons (ev_var 2 rfl (treeV_ok _ _)) evl_nil)) (evl_cons (ev_idxt (ev_var 3 rfl) ev_int (by decide) (by decide) rfl) evl_nil))))) nofun fun _ => ws_nil ?_
    have eb : (rs.filterMap fun r => if (slice r.1 none (some (st.length : Int)) == st) then some (RowV r) else none) = (belowR st rs).map RowV := by
      rw [filterMap_if]
      unfold belowR
      congr 2
      funext r
      rw [slice_take, pre_eq]
    refine ws_asg_comp (caps := [1]) (Fv := RowV) (ts := rs) 5 (fun r => if (slice r.1 none (some (st.length : Int)) == st) then some (RowV r) else none) (ev_idxt (ev_var 3 rfl) ev_int (by decide) (by decide) rfl) rfl (by rw [szL]; omega) (fun r hr => ?_) ?_
    · have hrl := R.r.len r hr
      exact turn_if (tr_cmp (ev_slc (ev_row0 (r := r) (ev_var 1 rfl)) evo_none (evo_some (ev_lens (ev_var 0 rfl) (by omega))) (by rw [szL]; omega)) (ev_var 0 rfl) cm_eqs) fun _ => ev_var 1 rfl
    rw [eb]
    have hbl : (belowR st rs).length ≤ rs.length := List.length_filter_le ..
    exact ws_ret (ev_call (al (rows_pl (by omega)) (by decide)) (evl_cons (ev_toldT M R.r hσ (ev_var 0 rfl) (ev_var 1 rfl) hs (by omega)) (evl_cons (ev_var 5 rfl) evl_nil))) (.id _)
end
end Mine

set_option autoImplicit false
set_option linter.all false
set_option maxRecDepth 100000
namespace Mine
open PySem PySem.W PyProof.Rows
structure InitT (G : Gl) (mN : Str → Option Value) (fI : Addr) : Prop where
  i1 : mN "__init__" = some (.ref fI)
  i2 : ∃ o, G.B.get? fI = some o ∧ o.cls = .type "function"
  i3 : FnO G.B fI K_Trail_init 1 B_Trail_init
inductive NewT (C : Addr) (F : Fz) (s : Shared) (v : Value) (s' : Shared) : Prop
  | mk (x dx b : Addr) (F' : Fz) (o od : Obj) (hv : v = .ref x) (S : St N0 F s F' s') (hx : F' x = some o) (hp : trP C dx x o x o) (hd0 : s.heap.get? dx = none) (hdF : F' dx = none) (hd : s'.heap.get? dx = some od) (hr : OcR F' od (.tr true .none b)) (hb0 : s.heap.get? b = none) (hbF : F' b = none) (hb : s'.heap.get? b = some (lobj [] 0)) (hne : dx ≠ b)
section
variable {G : Gl} {C N : Addr} {mN : Str → Option Value} {fI : Addr}
structure In (h : Heap) (x dx C : Addr) (mA : Str → Option Value) : Prop where
  obj : ∃ o, h.get? x = some o ∧ o.cls = .ref C ∧ (∀ c, o.data ≠ .cls c) ∧ o.dict = some dx
  ne : dx ≠ x
  ns : h.Ns1 dx mA
theorem In.inst {h : Heap} {x dx C : Addr} {mA : Str → Option Value} (i : In h x dx C mA) : h.Inst x C mA := i.obj.imp fun _ q => ⟨q.1, q.2.1, q.2.2.1, .inr ⟨dx, q.2.2.2, i.ne, i.ns⟩⟩
theorem In.step {x dx C : Addr} {mA : Str → Option Value} {F F' : Fz} {s s' : Shared} (i : In s.heap x dx C mA) (S : St N0 F s F' s') : In s'.heap x dx C mA := by
  obtain ⟨o, h1, h2, h3, h4⟩ := i.obj
  obtain ⟨o', e, k⟩ := S.keepO x o h1 id
  refine ⟨⟨o', e, ?_⟩, i.ne, ?_⟩
  · rcases k with rfl | ⟨_, sl, rfl⟩
    · exact ⟨h2, h3, h4⟩
    · exact ⟨h2, h3, h4⟩
  · obtain ⟨od, es, ep, ho, hd, r⟩ := i.ns
    obtain ⟨od', e', k'⟩ := S.keepO dx od ho id
    exact ⟨od', es, ep, e', k'.data.trans hd, r⟩
theorem In.of {h h' : Heap} {x dx C : Addr} {mA mA' : Str → Option Value} (i : In h x dx C mA) (I : h'.Inst x C mA') (hs : ∀ o₀, h.get? x = some o₀ → ∃ o₁, h'.get? x = some o₁ ∧ o₁.cls = o₀.cls ∧ o₁.data = o₀.data ∧ o₁.slots = o₀.slots ∧ ∀ dx, o₀.dict = some dx → o₁.dict = some dx) : In h' x dx C mA' := by
  obtain ⟨o, h1, h2, h3, h4⟩ := i.obj
  obtain ⟨o₁, e, g1, g2, _, g4⟩ := hs o h1
  obtain ⟨o₂, e₂, _, _, I₂⟩ := I
  cases e.symm.trans e₂
  have hd := g4 dx h4
  refine ⟨⟨o₁, e, g1.trans h2, fun c => g2 ▸ h3 c, hd⟩, i.ne, ?_⟩
  rcases I₂ with ⟨hn, _⟩ | ⟨d', hd', _, ns⟩
  · exact nomatch hd.symm.trans hn
  · cases hd.symm.trans hd'; exact ns
theorem St.privs {D D' : Addr → Prop} {F₀ F : Fz} {s₀ s : Shared} {h' : Heap} {t : Nat} (S : St D F₀ s₀ F s) (hD : ∀ q, D' q → F q = none ∧ s₀.heap.get? q = none) (up : ∀ b o, ¬ D' b → s.heap.get? b = some o → h'.get? b = some o) : St D F₀ s₀ F { s with heap := h', toks := t } :=
  have ne : ∀ b o, s₀.heap.get? b = some o → ¬ D' b := fun b o e h => nomatch (hD b h).2.symm.trans e
  ⟨S.up, fun a o e => up a o (fun h => nomatch (hD a h).1.symm.trans e) (S.sub a o e), fun b o e d => (S.keepO b o e d).imp fun o' q => ⟨up b o' (ne b o e) q.1, q.2⟩, fun b o e => (S.live b o e).imp fun o' e' => ⟨up b o' (ne b o e) e'.1, e'.2⟩, S.new, by rw [S.rest]⟩
theorem trail_newT (T : TrC G C N mN) (I : InitT G mN fI) {A : Around} {F : Fz} {s : Shared} {E : Value → Shared → Prop} (R : Rm G A F s) (hd : 3 ≤ G.d) : wpAny G.M A (call (.ref C) []) (NewT C F s) E s := by
  obtain ⟨hh, g, d, t, os⟩ := s
  have X := T.cls.keeps R.in
  obtain ⟨nm, q, bs, sn, sub, col, dd, k0, k1, k2, k3, k5, hC⟩ := X.obj
  obtain ⟨oI, hI, hIc⟩ := I.i2
  refine wpAny_call_obj_init PySem.F.objNew hC X.ns I.i1 (R.in _ _ hI) hIc fun h' x dx Mk => ?_
  have S₀ : St N0 F ⟨hh, g, d, t, os⟩ F ⟨h', g, d, t, os⟩ := .grow (s := ⟨hh, g, d, t, os⟩) (t := t) R.sub Mk.keeps
  have out : ∀ {a : Addr}, hh.get? a = none → F a = none := fun {a} e => R.out e
  have R' : Rm G.dn (A.under (.builtin "type.__call__" ⟨[.ref C], []⟩)) F ⟨h', g, d, t, os⟩ := by
    have R₁ := R.step S₀
    refine ⟨⟨R.go.g, R.go.b, R.go.nolimit, R.go.blt⟩, R.base, R₁.sub, ?_, ?_, R₁.handled, R₁.frames⟩
    · have := R.depth; show A.depth + 1 + (G.d - 1) ≤ recursionLimit; (exact a486 this hd)
    · have := R.units
      have hu : (Code.builtin "type.__call__" ⟨[.ref C], []⟩).cUnits ≤ 10 := by first | exact Nat.le_of_ble_eq_true rfl | (simp [Code.cUnits]; done) | (unfold Code.cUnits; split <;> decide)
      show A.units + (Code.builtin "type.__call__" ⟨[.ref C], []⟩).cUnits + 10 * (G.d - 1) + 100 ≤ cLine
      (exact a490 this hd hu)
  obtain ⟨ox, hx, hxc, hxn, hxd⟩ := id Mk.inst
  have hxdx := Mk.dict ox hx
  have hxC : x ≠ C := by rintro rfl; exact nomatch Mk.newX.symm.trans hC
  refine wpAny_call (enter_core (G := G.dn) (σ := σ0) (xs := [.ref x]) I.i3 rfl (by show 0 < G.d - 1; (exact a492 hd)) R' ⟨_, _, rfl, rfl, rfl⟩ (fun _ _ q => nomatch q) fun env s₁ k₁ S₁ hown hnf => ?_)
  have apart : ∀ q, q = x ∨ q = dx → F q = none ∧ hh.get? q = none := by
    rintro q (rfl | rfl)
    · exact ⟨out Mk.newX, Mk.newX⟩
    · exact ⟨out Mk.newD, Mk.newD⟩
  have I₀ : In h' x dx C fun _ => none := by
    obtain ⟨o, e, c, n, r⟩ := Mk.inst
    have hd := Mk.dict o e
    rcases r with ⟨hn, _⟩ | ⟨d', hd', ne, ns⟩
    · exact nomatch hd.symm.trans hn
    · cases hd.symm.trans hd'; exact ⟨⟨o, e, c, n, hd⟩, ne, ns⟩
  have ldx : ∃ o, h'.get? dx = some o := I₀.ns.imp fun _ q => q.elim fun _ q => q.elim fun _ q => q.1
  have dm : ∀ q, q = x ∨ q = dx → F q = none ∧ ¬ Own env q ∧ NoFr ((A.under (.builtin "type.__call__" ⟨[.ref C], []⟩)).deeper env) q := by
    have nf : ∀ q, hh.get? q = none → NoFr (A.under (.builtin "type.__call__" ⟨[.ref C], []⟩)) q := fun q e => (show NoFr A q from R.nofr fun o es n e' => nomatch e.symm.trans e')
    rintro q (rfl | rfl)
    · exact ⟨out Mk.newX, fun ho => (nomatch (hown _ ho).symm.trans hx), hnf _ _ hx (nf _ Mk.newX)⟩
    · exact ⟨out Mk.newD, fun ho => ldx.elim fun _ e => (nomatch (hown _ ho).symm.trans e), ldx.elim fun _ e => hnf _ _ e (nf _ Mk.newD)⟩
  have keep : ∀ {h₁ h₂ : Heap} {m₁ : Str → Option Value}, In h₁ x dx C m₁ → (∀ b o, b ≠ x → (∀ o₀ dx, h₁.get? x = some o₀ → o₀.dict = some dx → b ≠ dx) → h₁.get? b = some o → h₂.get? b = some o) → ∀ b o, ¬ (b = x ∨ b = dx) → h₁.get? b = some o → h₂.get? b = some o := fun i hk b o hb e => hk b o (fun h => hb (.inl h)) (fun o₀ d' h1 h2 => by
    obtain ⟨o, e', _, _, e''⟩ := i.obj
    cases h1.symm.trans e'; cases h2.symm.trans e''
    exact fun h => hb (.inr h)) e
  have I₁ := I₀.step S₁
  have S01 := S₀.trans S₁
  refine wpAny_execs_cons (plainObj_wpAny_Assign_Attribute (by
    rw [eval_Constant]
    refine wpAny_pure (name_var (G := G.dn.dn) k₁.e (i := 0) (x := .ref x) rfl rfl (by decide +kernel) fun v r => ?_)
    cases show v = .ref x from r
    obtain ⟨h₁, g₁, d₁, t₁, os₁⟩ := s₁
    have C₁ := T.cls.keeps (show ∀ b o, G.B.get? b = some o → h₁.get? b = some o from k₁.e.rm.in)
    obtain ⟨nm, q, bs, sn, sub, col, dd, k0, k1, k2, k3, k5, hC₁⟩ := C₁.obj
    refine store_attr (ns := []) PySem.F.store_object hC₁ C₁.ns T.q1 T.q4 no_kept hxC I₁.inst (fun h₂ tk I₂' hk hsame => ?_) (fun y h => absurd rfl h) (Nat.zero_le _)
    have I₂ := I₁.of I₂' hsame
    have up₂ := keep I₁ hk
    have k₂ := k₁.others (t := tk) (σ' := σ0) dm up₂ (fun _ _ q => nomatch q) (fun _ _ q => nomatch q)
    have S02 := S01.privs (t := tk) apart up₂
    refine wpAny_execs_cons (plainObj_wpAny_Assign_Attribute (List_ (Calls.spliced_nil (wpAny_newObj_type ?_ (Nat.zero_le _)))) rfl)
    have S₃ : St N0 F ⟨h₂, g₁, d₁, tk, os₁⟩ F ⟨h₂.push (lobj [] 0), g₁, d₁, tk, os₁⟩ := .grow (s := ⟨h₂, g₁, d₁, tk, os₁⟩) (t := tk) k₂.e.rm.sub fun _ _ e => Heap.get?_push_of_some _ e
    have k₃ := k₂.step S₃
    have I₃ := I₂.step S₃
    refine name_var (G := G.dn.dn) k₃.e (i := 0) (x := .ref x) rfl rfl (by decide +kernel) fun v r => ?_
    cases show v = .ref x from r
    have C₃ := T.cls.keeps (show ∀ b o, G.B.get? b = some o → (h₂.push (lobj [] 0)).get? b = some o from k₃.e.rm.in)
    obtain ⟨nm, q, bs, sn, sub, col, dd, k0, k1, k2, k3, k5, hC₃⟩ := C₃.obj
    refine store_attr (ns := ["kept"]) PySem.F.store_object hC₃ C₃.ns T.q1 T.q5 no_past hxC I₃.inst (fun h₄ tk₄ I₄' hk₄ hsame₄ => wpAny_execs_nil ?_) (fun y h => ?_) (by decide)
    · have I₄ := I₃.of I₄' hsame₄
      have S04 := (S02.trans S₃).privs (t := tk₄) apart (keep I₃ hk₄)
      obtain ⟨o₄, e₄, c₄, n₄, d₄⟩ := I₄.obj
      obtain ⟨od, es, ep, hd, hdd, hsk, huk, hk⟩ := I₄.ns
      have S5 := S04.freeze Mk.newX e₄ (out Mk.newX)
      have hbn : h₂.get? h₂.objs.size = none := size_none _
      have hb0 : hh.get? h₂.objs.size = none := S02.dead hbn
      have hbx : h₂.objs.size ≠ x := fun e => I₂.obj.elim fun _ q => nomatch (e ▸ hbn : h₂.get? x = none).symm.trans q.1
      have hbd : h₂.objs.size ≠ dx := fun e => I₂.ns.elim fun _ q => q.elim fun _ q => q.elim fun _ q => nomatch (e ▸ hbn : h₂.get? dx = none).symm.trans q.1
      have hb4 := keep I₃ hk₄ h₂.objs.size (lobj [] 0) (fun q => q.elim hbx hbd) (Heap.get?_push_size _ rfl)
      exact ⟨rfl, x, dx, h₂.objs.size, F.add x o₄, o₄, od, rfl, S5, if_pos rfl, ⟨c₄, d₄, I₄.ne, n₄⟩, Mk.newD, (if_neg I₄.ne).trans (out Mk.newD), hd, ⟨es, ep, .none, hdd, hsk, huk, (hk _).trans rfl, (hk _).trans rfl, fun n n1 n2 => (hk n).trans ((if_neg n2).trans (if_neg n1)), nofun, rfl⟩, hb0, (if_neg hbx).trans (out hb0), hb4, hbd.symm⟩
    · rcases Classical.em (y = "kept") with rfl | hy
      · exact List.mem_cons_self ..
      · exact absurd (if_neg hy) h) rfl)
end
end Mine

set_option autoImplicit false
set_option linter.all false
set_option maxRecDepth 100000
namespace Mine
open PySem PySem.W PyProof.Rows
section
variable {G : Gl} {K : Sx} {A : Around} {env : Env} {ρ : List V} {σ : Ow} {F F' : Fz} {s s' : Shared} {E : Value → Shared → Prop} {Q : KS} {ss : List Stmt} {C N dx b : Addr} {mN : Str → Option Value} {fI : Addr} {o od : Obj}
theorem FOk.newTrail (k : FOk G K A env ρ σ F s) (S : St N0 F s F' s') (hd0 : s.heap.get? dx = none) (hdF : F' dx = none) (hd : s'.heap.get? dx = some od) (hr : OcR F' od (.tr true .none b)) (hb0 : s.heap.get? b = none) (hbF : F' b = none) (hb : s'.heap.get? b = some (lobj [] 0)) (hne : dx ≠ b) : σ dx = none ∧ σ b = none ∧ FOk G K A env ρ (σT σ dx b .none []) F' s' ∧ Lk env σ F s (σT σ dx b .none []) F' s' := by
  have k' := k.step S
  have no : ∀ {a : Addr}, s.heap.get? a = none → σ a = none := fun {a} h => by
    cases q : σ a with
    | none => rfl
    | some c => exact (k.e.own _ c q).2.elim fun _ q => nomatch h.symm.trans q.1
  refine ⟨no hd0, no hb0, ⟨⟨k'.e.rm, k'.e.sc, k'.e.kind, k'.e.globals, k'.e.builtins, fun a c q => ?_, k'.e.loc⟩, k'.top, k'.apart, k'.nodup, k'.own, fun a c q => ?_⟩, S.any, fun a c q => ?_⟩ <;> by_cases h1 : a = b
  · subst h1; cases σT_b.symm.trans q; exact ⟨hbF, _, hb, [], 0, rfl, rfl⟩
  · by_cases h2 : a = dx
    · subst h2; cases (σT_dx hne).symm.trans q; exact ⟨hdF, od, hd, hr⟩
    · exact k'.e.own a c ((σT_ne h2 h1).symm.trans q)
  · subst h1; exact k.newSep hb0
  · by_cases h2 : a = dx
    · subst h2; exact k.newSep hd0
    · exact k.sep a c ((σT_ne h2 h1).symm.trans q)
  · exact .inr (h1 ▸ hb0)
  · by_cases h2 : a = dx
    · exact .inr (h2 ▸ hd0)
    · exact .inl ⟨c, (σT_ne h2 h1).symm.trans q, id⟩
theorem eval_trail {p q : Pos} {R : Value → Shared → Prop} (T : TrC G C N mN) (I : InitT G mN fI) (hd : 3 ≤ G.d) (k : FOk G K A env ρ σ F s) (hg : globOK K "Trail" = true)
    (h : ∀ v s' x dx b F' o, v = .ref x → F' x = some o → trP C dx x o x o → dx ≠ b → σ dx = none → σ b = none → St N0 F s F' s' → FOk G K A env ρ (σT σ dx b .none []) F' s' → Lk env σ F s (σT σ dx b .none []) F' s' → R v s') : wpAny G.M A (eval (.Call (.Name "Trail" q) [] [] p) env) R E s :=
  wpAny_Call_NameR (name_global k.e (.inl T.bound) hg (callWith_cls0 T.cls k.e.rm.in (wpAny_mono (trail_newT T I k.e.rm hd) (fun v s₁ t => t.casesOn fun x dx b F' o od hv S hx hp hd0 hdF hd hr hb0 hbF hb hne => by
    obtain ⟨h1, h2, k', L⟩ := k.newTrail S hd0 hdF hd hr hb0 hbF hb hne
    exact h v s₁ x dx b F' o hv hx hp hne h1 h2 S k' L) fun _ _ e => e)))
theorem ws_trail (i : Nat) {n : Str} {q₀ q₁ p₁ p : Pos} (T : TrC G C N mN) (I : InitT G mN fI) (hd : 3 ≤ G.d) (h : ∀ dx b, dx ≠ b → σ dx = none → σ b = none → WS G K ss (ρ.set i (trl C dx)) (σT σ dx b .none []) Q)
    (hx : nameOK K i n = true := by decide +kernel) (hg : globOK K "Trail" = true := by decide +kernel) : WS G K (.Assign [.Name n q₀] (.Call (.Name "Trail" q₁) [] [] p₁) p :: ss) ρ σ Q :=
  ws_cons fun A env F s E k => wpAny_Assign_Name (eval_trail T I hd k hg fun v s₁ x dx b F₁ o hv hx1 hp hne h1 h2 S₁ k₁ L₁ => by
    subst hv
    exact store_ok (x := trl C dx) k₁ hx ⟨x, o, x, o, rfl, hx1, hx1, hp⟩ fun h' t k₄ L₄ _ => ⟨.next, _, _, F₁, trivial, k₄, L₁.trans L₄, h dx b hne h1 h2⟩) rfl
end
end Mine

set_option autoImplicit false
set_option linter.all false
set_option maxRecDepth 100000
namespace Mine
open PySem PySem.W PyProof.Rows
structure Js (dx b : Addr) (rs : List Rw) (pss : List (List Rw)) (m : Nat) (σ : Ow) : Prop where
  d : σ dx = some (.tr true (treeV 50 rs) b)
  l : σ b = some (.lst (pss.map (treeV 50)))
  R : ∀ q ∈ pss ++ [rs], Kp100 q
  n : pss.length ≤ m
  ne : dx ≠ b
def LB : List Stmt := match B_law.drop 3 with
  | .For _ _ b _ _ :: _ => b
  | _ => []
def FB : List Stmt := match (match B_law.drop 2 with | .If _ b _ _ :: _ => b.drop 1 | _ => []) with
  | .For _ _ b _ _ :: _ => b
  | _ => []
section
variable {G : Gl} {C N : Addr} {mN : Str → Option Value} {fm : Str → Addr} {dx b : Addr} {rs : List Rw} {pss : List (List Rw)} {m : Nat} {σ : Ow} {zs : List V} {c : Int}
theorem Js.here (J : Js dx b rs pss m σ) : Kp100 rs := J.R _ (List.mem_append_right _ (List.mem_singleton.mpr rfl))
theorem Js.up (J : Js dx b rs pss m σ) {m' : Nat} (h : m ≤ m') : Js dx b rs pss m' σ := ⟨J.d, J.l, J.R, Nat.le_trans J.n h, J.ne⟩
theorem Js.ro (J : Js dx b rs pss m σ) : Ro σ (σR dx b (treeV 50 rs)) := fun a c q => by
  by_cases hd : a = dx
  · subst hd; cases (Ow.put_self ..).symm.trans q; exact ⟨rfl, _, J.d, fun _ _ r => r⟩
  · exact nomatch (Ow.put_ne _ _ hd).symm.trans q
theorem Js.roB (J : Js dx b rs pss m σ) : Ro σ (σB dx b (treeV 50 rs) (pss.map (treeV 50))) := fun a c q => by
  by_cases hb : a = b
  · subst hb; cases (Ow.put_self ..).symm.trans q; exact ⟨rfl, _, J.l, fun _ _ r => r⟩
  · have q' := (Ow.put_ne _ _ hb).symm.trans q
    by_cases hd : a = dx
    · subst hd; cases (Ow.put_self ..).symm.trans q'; exact ⟨rfl, _, J.d, fun _ _ r => r⟩
    · exact nomatch (Ow.put_ne _ _ hd).symm.trans q'
theorem Js.go (J : Js dx b rs pss m σ) {rs' : List Rw} (h : Kp100 rs') : Js dx b rs' (pss ++ [rs]) (m + 1) (σT σ dx b (treeV 50 rs') (pss.map (treeV 50) ++ [treeV 50 rs])) := by
  have hn := J.n
  refine ⟨σT_dx J.ne, by rw [List.map_append]; exact σT_b, fun q hq => ?_, by rw [List.length_append]; show _ + 1 ≤ _; omega, J.ne⟩
  rcases List.mem_append.mp hq with g | g
  · exact J.R q g
  · rw [List.mem_singleton.mp g]; exact h
abbrev ρL (zs : List V) (C dx : Addr) (v3 v4 : V) (c : Int) (v6 v7 v8 : V) : List V := [.scr zs, trl C dx, .int 20, v3, v4, .int c, v6, v7, v8]
theorem turn (L : CL G C N mN fm) (J : Js dx b rs pss m σ) (hm : m ≤ 900) (hd : 300 ≤ G.d) {Q : KS} {v3 v4 v6 v7 v8 : V} (h : ∀ rs' pss' σ' v6 v7 v8, Js dx b rs' pss' (m + 1) σ' → Q .next (ρL zs C dx v3 v4 c v6 v7 v8) σ') : WS G K_law LB (ρL zs C dx v3 v4 c v6 v7 v8) σ Q := by
  have M := L.d.m
  have al : ∀ {n : Nat} {x : V}, Pl n x → n ≤ 200 → Pure G "_law_alike" [x, x] (.bool true) := fun {n x} h hn => c_alike n L.alike L.whole h (by omega)
  have hn := J.here.n
  have hpl := J.n
  refine ws_asg 6 (ev_tree M J.d (ev_var 1 rfl) (by omega)) ?_
  -- behind the deed
  have fin : ∀ {rs' : List Rw} {pss' : List (List Rw)} {σ' : Ow} {v6 : V}, Js dx b rs' pss' (m + 1) σ' → WS G K_law (LB.drop 2) (ρL zs C dx v3 v4 c v6 v7 v8) σ' Q := fun {rs' pss' σ' v6} J' => by
    have R' := J'.here
    have hn' := R'.n
    have eh : (rs'.filterMap fun r => some (V.str r.1)) = (rs'.map (·.1)).map .str := by rw [List.filterMap_eq_map', List.map_map]; rfl
    obtain ⟨w, hw, hS⟩ := c_start_by (G := G) (c := c * 40692 % 2147483399) (hs := rs'.map (·.1)) L.start L.d.text_by L.d.word L.d.sign (fun t ht => by obtain ⟨r, hr, rfl⟩ := List.mem_map.mp ht; exact R'.r.len r hr) (fun t ht => by obtain ⟨r, hr, rfl⟩ := List.mem_map.mp ht; exact R'.ok r hr) (by rw [List.length_map]; omega) (by omega)
    refine ws_asg 7 (ev_tree M J'.d (ev_var 1 rfl) (by omega)) ?_
    refine ws_asg_comp (caps := []) (Fv := RowV) (ts := rs') 8 (fun r => some (V.str r.1)) ((ev_toldT M R'.r J'.d (ev_var 1 rfl) (ev_lit []) rfl (by omega)).to (by rw [below_nil])) rfl (by rw [szL]; omega) (fun r hr => turn_all (ev_row0 (r := r) (ev_var 0 rfl))) ?_
    rw [eh]
    exact ws_if (b := false) (Tr.to (tr_bop (trl_or (tr_not (b := true) (tr_ev (ev_call (al (treeV_pl 50 (by omega)) (by decide)) (evl_cons (ev_tree M J'.d (ev_var 1 rfl) (by omega)) (evl_cons (ev_var 7 rfl (treeV_ok _ _)) evl_nil))))) fun _ => trl_one (tr_not (b := true) (tr_ev (ev_callR L.right J'.ro (evl_cons (ev_var 1 rfl) (evl_cons (ev_call hS (evl_cons (ev_mod (ev_mul (ev_var 5 rfl) ev_int (.of_right (by decide))) ev_int (by decide)) (evl_cons (ev_var 8 rfl) evl_nil))) evl_nil)) rfl (by omega) (b_right L.dn R' hw (by show 250 ≤ G.d - 1; omega))))))) rfl) nofun fun _ => ws_nil (ws_nil (h _ _ _ _ _ _ J'))
  rcases deed_or (c := c) L.d.dn L.x.dn J.ne J.here (Nat.le_trans J.n (by omega)) (by show 130 ≤ G.d - 1; omega) with ⟨_, hN⟩ | ⟨_, hY⟩
  · exact ws_if (b := false) (Tr.to (tr_bop (trl_and (tr_not (b := false) (tr_ev (ev_callR L.d.deed J.roB (evl_cons (ev_var 1 rfl) (evl_cons (ev_var 5 rfl) evl_nil)) rfl (by omega) (by assumption)))) fun _ => trl_one (tr_not (b := true) (tr_ev (ev_call (al (treeV_pl 50 (by omega)) (by decide)) (evl_cons (ev_tree M J.d (ev_var 1 rfl) (by omega)) (evl_cons (ev_var 6 rfl (treeV_ok _ _)) evl_nil))))))) rfl) nofun fun _ => ws_nil (fin (J.up (Nat.le_succ _)))
  · refine ws_ifM (trm_andF (trm_not (trm_ev (v := true) (evm_call L.d.deed J.d J.l J.ne (evl_cons (ev_var 1 rfl) (evl_cons (ev_var 5 rfl) evl_nil)) rfl (by omega) (by assumption)) fun x σ' h => by obtain ⟨k', ps', h, _⟩ := h; exact h.1)) fun u σ' h => by rw [← Bool.not_not u, h.1]; rfl) (fun σ' h => nomatch h.1) fun σ' h => ws_nil ?_
    obtain ⟨_, _, k', ps', ⟨_, hst⟩, rfl⟩ := h
    rcases hst with ⟨_, hps⟩ | ⟨_, rfl, rs', hK, rfl⟩
    · rcases last_cases pss with rfl | ⟨qs, q, rfl⟩
      · exact absurd (congrArg List.length hps) (by simp)
      · rw [List.map_append] at hps
        obtain ⟨rfl, hk⟩ := List.append_inj' hps rfl
        cases hk
        refine fin (rs' := q) (pss' := qs) ⟨σT_dx J.ne, σT_b, fun r hr => J.R r (List.mem_append_left _ hr), ?_, J.ne⟩
        rw [List.length_append] at hpl
        omega
    · exact fin (J.go hK)
theorem turn1 (L : CL G C N mN fm) (J : Js dx b rs pss m σ) {i : Nat} (hi : i < 12) (hl : rs.length ≤ i) (hm : m ≤ 900) (hd : 300 ≤ G.d) {Q : KS} {cc : Int} {v5 v6 v7 v8 : V} (h : ∀ rs' pss' σ', rs'.length ≤ i + 1 → Js dx b rs' pss' (m + 1) σ' → Q .next [.scr zs, trl C dx, .int 20, .str (wordBy cc 40), .int i, v5, v6, v7, v8] σ') :
    WS G K_law FB [.scr zs, trl C dx, .int 20, .str (wordBy cc 40), .int i, v5, v6, v7, v8] σ Q := by
  have hpl := J.n
  have hwl := wordBy_len cc 40
  have hn : okN ((wordBy cc 40).take (3 * i)) = true := by
    unfold okN
    rw [decide_eq_true (by rw [List.length_take]; omega), all_take (word_ok _ _)]; rfl
  have hok : (!(foundV ((wordBy cc 40).take (3 * i)) rs).nn && decide ((100 : Int) ≤ rs.length)) = false := by
    rw [decide_eq_false (by omega), Bool.and_false]
  refine ws_exprM (evm_meth L.d.m.t L.d.m.keep J.d J.l J.ne (ev_var 1 rfl) (evl_cons (Ev.to (y := .str ((wordBy cc 40).take (3 * i))) (ev_slc (ev_var 3 rfl) evo_none (evo_some (ev_mul ev_int (ev_var 4 rfl) (.of_left (by decide)))) (by rw [szL]; omega)) ?_) (evl_cons (ev_var 4 rfl) evl_nil)) rfl (by omega) (b_keep L.d.m.dn J.ne J.here.r hn hok (by rw [List.length_map]; omega) (by show 70 ≤ G.d - 1; omega))) ?_
  · rw [show ((3 : Int) * (i : Int)) = ((3 * i : Nat) : Int) by omega, slice_take]
  · rintro x σ' ⟨k', ps', ⟨rfl, rfl⟩, rfl⟩
    refine ws_nil (h _ _ _ ?_ (J.go (keep_rows J.here hn hok)))
    rw [(sortR_perm _).length_eq, List.length_append]
    have : (othersR ((wordBy cc 40).take (3 * i)) rs).length ≤ rs.length := List.length_filter_le ..
    show _ + 1 ≤ _
    omega
theorem slice_mem {α : Type} {l : List α} {m n : Option Int} {x : α} (h : x ∈ slice l m n) : x ∈ l := List.mem_of_mem_take (List.mem_of_mem_drop h)
theorem law13 {fI : Addr} (L : CL G C N mN fm) (I : InitT G mN fI) (hG : 600 ≤ G.d) {zs : List Int} (hz : zs.length ≤ 63) : WS G K_law B_law (.scr (zs.map .int) :: List.replicate (K_law.ns.length - 1) .unb) σ0 (retQ (.bool true)) := by
  have hzl : (zs.map V.int).length = zs.length := List.length_map ..
  refine ws_trail 1 L.d.m.t I (by omega) fun dx b hne _ _ => ?_
  have K0 : Kp100 [] := ⟨⟨.nil, nofun, by decide⟩, by decide, nofun⟩
  have J0 : Js dx b [] [] 0 (σT σ0 dx b .none []) := ⟨σT_dx hne, σT_b, fun q hq => by rw [List.mem_singleton.mp hq]; exact K0, Nat.le_refl _, hne⟩
  generalize σT σ0 dx b .none [] = σ at J0
  show WS G K_law (B_law.drop 1) [.scr (zs.map .int), trl C dx, .unb, .unb, .unb, .unb, .unb, .unb, .unb] σ _
  refine ws_asg 2 (ev_idxl (i := 0) (ev_list (evl_cons ev_int (evl_cons ev_int evl_nil)) sz2) ((ev_int1 (ev_cmp (ev_lenc (ev_var 0 rfl) (by rw [hzl]; omega)) ev_int cm_gt)).to (by rw [decide_eq_false (by rw [hzl]; omega)]; rfl)) (by decide) (by decide) rfl) ?_
  have ec : ∀ {ρ : List V} {σ : Ow} {q q' q'' p : Pos} {kc : Nat}, ρ[0]? = some (.scr (zs.map .int)) → Ev G K_law ρ σ (.Call (.Name "_law_cell_at" q) [.Name "_law_script" q', .Constant (.int 0) kc q''] [] p) (.int (zs.getD 0 0)) := fun h => ev_call (c_cell_at L.cell hz (by decide) (by omega)) (evl_cons (ev_var 0 h) (evl_cons ev_int evl_nil))
  generalize zs.getD 0 0 = beg at ec
  -- the rest
  have rest : ∀ {rs : List Rw} {pss : List (List Rw)} {σ : Ow} {v3 v4 : V}, Js dx b rs pss 12 σ → WS G K_law (B_law.drop 3) [.scr (zs.map .int), trl C dx, .int 20, v3, v4, .unb, .unb, .unb, .unb] σ (retQ (.bool true)) := fun {rs pss σ v3 v4} J => by
    refine ws_for (fun i ρ σ => ∃ rs pss, Js dx b rs pss (12 + i) σ ∧ ∃ v5 v6 v7 v8, ρ = [.scr (zs.map .int), trl C dx, .int 20, v3, v4, v5, v6, v7, v8]) (ev_slcS (ev_var 0 rfl) (evo_some ev_int) (evo_some (ev_add ev_int (ev_var 2 rfl))) (by rw [hzl, szL]; omega)) rfl ⟨_, _, J, _, _, _, _, rfl⟩ ?_ ?_
    · rintro i ρ σ y hy ⟨rs, pss, J, v5, v6, v7, v8, rfl⟩
      obtain ⟨c, _, rfl⟩ := List.mem_map.mp (slice_mem (List.mem_of_getElem? hy))
      have hi := (List.getElem?_eq_some_iff.mp hy).1
      have hs : (slice (zs.map V.int) (some 1) (some (1 + 20))).length ≤ 63 := by unfold slice; rw [List.length_drop, List.length_take, hzl]; omega
      exact ⟨_, asg_name 5, turn L J (by omega) (by omega) fun rs' pss' σ' v6 v7 v8 J' => ⟨rs', pss', J', _, _, _, _, rfl⟩⟩
    · rintro ρ σ ⟨rs, pss, J, v5, v6, v7, v8, rfl⟩
      exact ws_ret (ev_callR L.right J.ro (evl_cons (ev_var 1 rfl) (evl_cons (ev_lit []) evl_nil)) rfl (by omega) (b_right L.dn J.here rfl (by show 250 ≤ G.d - 1; omega))) (.id _)
  refine ws_if (tr_cmp (ev_mod (ec rfl) ev_int (by decide)) ev_int cm_eqi) (fun _ => ?_) fun _ => ws_nil (rest (J0.up (by decide)))
  refine ws_asg 3 (ev_call (c_word_by (n := 40) L.d.word L.d.sign (by decide) (by omega)) (evl_cons (ev_fdiv (ec rfl) ev_int (by decide) (by decide)) (evl_cons ev_int evl_nil))) ?_
  refine ws_for (fun i ρ σ => ∃ rs pss, rs.length ≤ i ∧ Js dx b rs pss i σ ∧ ∃ v4, ρ = [.scr (zs.map .int), trl C dx, .int 20, .str (wordBy (beg / 8) 40), v4, .unb, .unb, .unb, .unb]) (ev_range1 (i := ((12 : Nat) : Int)) ev_int (by decide) (by decide)) rfl ⟨_, _, Nat.zero_le _, J0, _, rfl⟩ ?_ ?_
  · rintro i ρ σ y hy ⟨rs, pss, hl, J, v4, rfl⟩
    obtain ⟨hi, rfl⟩ := rng_get hy
    exact ⟨_, asg_name 4, turn1 L J hi hl (by omega) (by omega) fun rs' pss' σ' hl' J' => ⟨rs', pss', hl', J', _, rfl⟩⟩
  · rintro ρ σ ⟨rs, pss, hl, J, v4, rfl⟩
    rw [rng_len] at J
    exact ws_nil (rest J)
end
end Mine

set_option autoImplicit false
set_option linter.all false
set_option maxRecDepth 100000
namespace Mine
open PySem PySem.W PyProof.Rows
theorem top_int {p : Program} {loose : List Str} {mean : ExcName → Option Value} {mg mb : Str → Option Value} {h : Heap} (T : Top p loose mean mg mb h) {x : Str} {i : Int} (hv : valOf p x = some (.int i)) : ∃ t, mg x = some (.int i t) := by
  obtain ⟨v, h1, r⟩ := T.const x _ hv
  have := r h
  cases this
  exact ⟨_, h1⟩
def clOf (p : Program) (loose : List Str) : Option ClsRec := (plainsOf p loose).find? fun c => c.name == ("Trail" : Str)
def meOf (p : Program) (loose : List Str) (f : Str) : Option MethRec := match clOf p loose with
  | some c => c.meths.find? fun m => m.name == f
  | none => none
def meB (p : Program) (loose : List Str) (f : Str) : List Stmt := match meOf p loose f with | some m => m.body | none => []
def meS (p : Program) (loose : List Str) (f : Str) : Scope := match meOf p loose f with | some m => m.scope | none => default
def meChk (p : Program) (loose : List Str) (f : Str) (K : Sx) (np : Nat) : Bool := match meOf p loose f with
  | some m => m.params.posonlyargs.isEmpty && (m.params.args.map (·.arg) == K.ns.take np) && m.params.kwonlyargs.isEmpty && m.params.vararg.isNone && m.params.kwarg.isNone && fnChk K np
  | none => false
def quietChk (p : Program) (loose : List Str) : Bool := match clOf p loose with | some c => c.quiet.contains "kept" && c.quiet.contains "past" | none => false
theorem me_fn {p : Program} {loose : List Str} {h : Heap} {c : ClsRec} {C N : Addr} {mN : Str → Option Value} (hc : clOf p loose = some c) (P : PlainAt h c C N mN) {f : Str} {K : Sx} {np : Nat} {B : List Stmt} (hk : meChk p loose f K np = true) (hs : meS p loose f = K.sc) (hb : meB p loose f = B) :
    ∃ fa, mN f = some (.ref fa) ∧ (∃ o, h.get? fa = some o ∧ o.cls = .type "function") ∧ FnO h fa K np B := by
  unfold meChk at hk
  unfold meS at hs
  unfold meB at hb
  split at hk
  · rename_i m hm
    rw [hm] at hs hb
    have hm' : c.meths.find? (fun m => m.name == f) = some m := by
      have := hm
      unfold meOf at this
      rw [hc] at this
      exact this
    have hn : m.name = f := eq_of_beq (List.find?_some (p := fun m : MethRec => m.name == f) hm')
    obtain ⟨fa, o, pm, cd, doc, h1, h2, h3, h4, h5⟩ := P.meths m (List.mem_of_find?_eq_some hm')
    simp only [Bool.and_eq_true, List.isEmpty_iff, Option.isNone_iff_eq_none, beq_iff_eq] at hk
    obtain ⟨⟨⟨⟨⟨k1, k2⟩, k3⟩, k4⟩, k5⟩, k6⟩ := hk
    have k7 := k6
    unfold fnChk at k7
    simp only [Bool.and_eq_true, decide_eq_true_eq] at k7
    refine ⟨fa, hn ▸ h1, ⟨o, h2, h3⟩, ⟨o, _, h2, h4, h5, congrArg _ hb, rfl, rfl, rfl, fun vs hl => ?_, hs⟩, k6⟩
    exact bind_simple k1 k2 k3 k4 k5 rfl (k7.1.2.sublist (List.take_sublist ..)) (by rw [List.length_take, Nat.min_eq_left k7.2]; exact hl)
  · cases hk
theorem tr_at {p : Program} {loose : List Str} {mg mb : Str → Option Value} {h : Heap} {prog : Program} {w : World} {d : Nat} (TE : TopE p loose mg h) (hk : quietChk p loose = true) :
    ∃ C N mN, TrC ⟨prog, w, h, mg, mb, d⟩ C N mN ∧ ∀ {f : Str} {K : Sx} {np : Nat} {B : List Stmt}, meChk p loose f K np = true → meS p loose f = K.sc → meB p loose f = B → ∃ fa, mN f = some (.ref fa) ∧ (∃ o, h.get? fa = some o ∧ o.cls = .type "function") ∧ FnO h fa K np B := by
  unfold quietChk at hk
  split at hk
  · rename_i c hc
    simp only [Bool.and_eq_true, List.contains_iff_mem] at hk
    have hn : c.name = "Trail" := eq_of_beq (List.find?_some (p := fun c : ClsRec => c.name == ("Trail" : Str)) hc)
    obtain ⟨C, N, mN, hm, P'⟩ := TE c (List.mem_of_find?_eq_some hc)
    have P := P'.ofCmp
    have q : ∀ n, n ∈ (["__setattr__", "__getattribute__", "__getattr__"] : List Str) → mN n = none := fun n hn => P.quiet n (List.mem_append_left _ hn)
    exact ⟨C, N, mN, ⟨hn ▸ hm, P.cls, q _ (by decide), q _ (by decide), q _ (by decide), P.quiet _ hk.1, P.quiet _ hk.2⟩, fun k1 k2 k3 => me_fn hc P k1 k2 k3⟩
  · cases hk
def fmO (mN : Str → Option Value) (m : Str) : Addr := match mN m with | some (.ref a) => a | _ => 0
theorem mth_of {G : Gl} {mN : Str → Option Value} {m : Str} {K : Sx} {np : Nat} {B : List Stmt} (h : ∃ fa, mN m = some (.ref fa) ∧ (∃ o, G.B.get? fa = some o ∧ o.cls = .type "function") ∧ FnO G.B fa K np B) (no : typeLookup (.type "object") m = pure none) (nk : m ≠ "kept") (np' : m ≠ "past") : Mth G mN m (fmO mN m) K np B := by
  obtain ⟨fa, h1, h2, h3⟩ := h
  have e : fmO mN m = fa := by unfold fmO; rw [h1]
  rw [e]
  exact ⟨h1, h2, h3, no, nk, np'⟩
theorem lk_become : typeLookup (.type "object") "become" = pure none := by rw [typeLookup_type, builtinLookup_eq_fast]; kernel_rfl
theorem lk_need_under : typeLookup (.type "object") "need_under" = pure none := by rw [typeLookup_type, builtinLookup_eq_fast]; kernel_rfl
theorem lk_need_short : typeLookup (.type "object") "need_short" = pure none := by rw [typeLookup_type, builtinLookup_eq_fast]; kernel_rfl
theorem lk_keep : typeLookup (.type "object") "keep" = pure none := by rw [typeLookup_type, builtinLookup_eq_fast]; kernel_rfl
theorem lk_drop : typeLookup (.type "object") "drop" = pure none := by rw [typeLookup_type, builtinLookup_eq_fast]; kernel_rfl
theorem lk_prune : typeLookup (.type "object") "prune" = pure none := by rw [typeLookup_type, builtinLookup_eq_fast]; kernel_rfl
theorem lk_move : typeLookup (.type "object") "move" = pure none := by rw [typeLookup_type, builtinLookup_eq_fast]; kernel_rfl
theorem lk_graft : typeLookup (.type "object") "graft" = pure none := by rw [typeLookup_type, builtinLookup_eq_fast]; kernel_rfl
theorem lk_back : typeLookup (.type "object") "back" = pure none := by rw [typeLookup_type, builtinLookup_eq_fast]; kernel_rfl
theorem lk_told : typeLookup (.type "object") "told" = pure none := by rw [typeLookup_type, builtinLookup_eq_fast]; kernel_rfl
theorem lk_tree : typeLookup (.type "object") "tree" = pure none := by rw [typeLookup_type, builtinLookup_eq_fast]; kernel_rfl
theorem lk_size : typeLookup (.type "object") "size" = pure none := by rw [typeLookup_type, builtinLookup_eq_fast]; kernel_rfl
end Mine

open PySem PySem.W PyProof.Rows
set_option Elab.async false
set_option maxRecDepth 100000
namespace Mine
theorem fn_of {p : Program} {loose : List Str} {mean : ExcName → Option Value} {mg mb : Str → Option Value} {h : Heap} (T : Top p loose mean mg mb h) {f : Str} {K : Sx} {np : Nat} {B : List Stmt} (hk : recChk p f ⟨K.ns, np⟩ = true) (hs : (match recOf p f with | some d => d.scope | none => default) = K.sc) (hb : bodyOf p f = B) : FnAt h mg f K np B := by
  have := top_fn T hk
  rw [hb] at this
  have e : sxOf p f ⟨K.ns, np⟩ = K := by
    unfold sxOf
    unfold recChk at hk
    split at hk
    · rename_i d hd
      rw [hd] at hs
      cases K; cases hs; rfl
    · cases hk
  rw [e] at this
  exact this
set_option maxHeartbeats 8000000 in
theorem final : PySem.Challenge.rw_uf020025_13.Holds := by
  w_on
  refine holds_law (by kernel_rfl) fun said => ?_
  refine holds_open (q := vw) (loose := []) (Xt := fun s => (MR.all fun p => mroB s p.1 p.2.1 p.2.2) && recOk (RowW.records (OpenRow.toRowW PySem.Challenge.rw_uf020025_13.row)) s) (XP := MroP MR) (Yf := Hook.obs Hook.none) (Ya := Hook.val Hook.none) (YP := Hook.says Hook.none) (N := 8000) left (Hook.of Hook.none) (Hook.keeps Hook.none) (fun s e => mroP_of (Bool.and_eq_true_iff.mp e).1) MroP.keeps (by rfl) (by rfl) (by rfl) (fun s e => recFacts_of (Bool.and_eq_true_iff.mp e).2) (by rfl) (by first | assumption | decide +kernel) (by decide +kernel) ⟨rfl, rfl, rfl, rfl, rfl, by decide +kernel⟩ ?hw ?hc
  (case hw => w_witness2)
  intro w s₀ s₁ mg mb G Y fa o pm cd doc dV kV ho hd' hcd hD hmg hg args vals as hpre hlay hrd hwl hlo
  refine Ground.open G ?_
  intro T B D TE TW
  wrow_args hpre hlay hrd hwl hlo
  all_goals (
    first | refine callC_kw (enter_call ?_) | refine enter_call ?_ | refine callC_kw (enter_callW ?_) | refine enter_callW ?_ | w_how)
  rename_i zs _ _ _ _ _ _ _ a vs _ hL _ _ _ hI _ hlen _
  let Gm : Gl := ⟨PySem.Challenge.rw_uf020025_13.row.prog, w, s₁.heap, mg, mb, 680⟩
  have GO : Gm.Ok := top_gl T (by decide +kernel)
  have ef : Gl.fn Gm "law" = fa := by
    unfold Gl.fn fnA
    have : mg "law" = some (.ref fa) := hmg
    simp only [Gm, this]
  obtain ⟨C, N, mN, T0, hM⟩ := tr_at (prog := PySem.Challenge.rw_uf020025_13.row.prog) (w := w) (mb := mb) (d := 679) TE (by decide +kernel)
  obtain ⟨fI, i1, i2, i3⟩ := hM (f := "__init__") (K := K_Trail_init) (np := 1) (B := B_Trail_init) (by decide +kernel) (by kernel_rfl) (by kernel_rfl)
  have P : CP Gm.dn := ⟨fn_of T (by decide +kernel) (by kernel_rfl) (by kernel_rfl), fn_of T (by decide +kernel) (by kernel_rfl) (by kernel_rfl), fn_of T (by decide +kernel) (by kernel_rfl) (by kernel_rfl), fn_of T (by decide +kernel) (by kernel_rfl) (by kernel_rfl), fn_of T (by decide +kernel) (by kernel_rfl) (by kernel_rfl), fn_of T (by decide +kernel) (by kernel_rfl) (by kernel_rfl), fn_of T (by decide +kernel) (by kernel_rfl) (by kernel_rfl), fn_of T (by decide +kernel) (by kernel_rfl) (by kernel_rfl), fn_of T (by decide +kernel) (by kernel_rfl) (by kernel_rfl), fn_of T (by decide +kernel) (by kernel_rfl) (by kernel_rfl), fn_of T (by decide +kernel) (by kernel_rfl) (by kernel_rfl), fn_of T (by decide +kernel) (by kernel_rfl) (by kernel_rfl), fn_of T (by decide +kernel) (by kernel_rfl) (by kernel_rfl), fn_of T (by decide +kernel) (by kernel_rfl) (by kernel_rfl), fn_of T (by decide +kernel) (by kernel_rfl) (by kernel_rfl), fn_of T (by decide +kernel) (by kernel_rfl) (by kernel_rfl), fn_of T (by decide +kernel) (by kernel_rfl) (by kernel_rfl), fn_of T (by decide +kernel) (by kernel_rfl) (by kernel_rfl), fn_of T (by decide +kernel) (by kernel_rfl) (by kernel_rfl), fn_of T (by decide +kernel) (by kernel_rfl) (by kernel_rfl), top_sys T (by decide +kernel)⟩
  have W : CW Gm.dn := ⟨fn_of T (by decide +kernel) (by kernel_rfl) (by kernel_rfl), fn_of T (by decide +kernel) (by kernel_rfl) (by kernel_rfl), top_int T (by kernel_rfl), top_int T (by kernel_rfl), top_int T (by kernel_rfl), top_int T (by kernel_rfl)⟩
  have M : CM Gm.dn C N mN (fmO mN) := ⟨P, W, fn_of T (by decide +kernel) (by kernel_rfl) (by kernel_rfl), top_int T (by kernel_rfl), T0, mth_of (hM (by decide +kernel) (by kernel_rfl) (by kernel_rfl)) lk_become (by decide) (by decide), mth_of (hM (by decide +kernel) (by kernel_rfl) (by kernel_rfl)) lk_need_under (by decide) (by decide), mth_of (hM (by decide +kernel) (by kernel_rfl) (by kernel_rfl)) lk_need_short (by decide) (by decide), mth_of (hM (by decide +kernel) (by kernel_rfl) (by kernel_rfl)) lk_keep (by decide) (by decide), mth_of (hM (by decide +kernel) (by kernel_rfl) (by kernel_rfl)) lk_drop (by decide) (by decide), mth_of (hM (by decide +kernel) (by kernel_rfl) (by kernel_rfl)) lk_prune (by decide) (by decide), mth_of (hM (by decide +kernel) (by kernel_rfl) (by kernel_rfl)) lk_move (by decide) (by decide), mth_of (hM (by decide +kernel) (by kernel_rfl) (by kernel_rfl)) lk_graft (by decide) (by decide), mth_of (hM (by decide +kernel) (by kernel_rfl) (by kernel_rfl)) lk_back (by decide) (by decide), mth_of (hM (by decide +kernel) (by kernel_rfl) (by kernel_rfl)) lk_told (by decide) (by decide), mth_of (hM (by decide +kernel) (by kernel_rfl) (by kernel_rfl)) lk_tree (by decide) (by decide), mth_of (hM (by decide +kernel) (by kernel_rfl) (by kernel_rfl)) lk_size (by decide) (by decide)⟩
  have D : CD Gm.dn C N mN (fmO mN) := ⟨M, fn_of T (by decide +kernel) (by kernel_rfl) (by kernel_rfl), fn_of T (by decide +kernel) (by kernel_rfl) (by kernel_rfl), fn_of T (by decide +kernel) (by kernel_rfl) (by kernel_rfl), fn_of T (by decide +kernel) (by kernel_rfl) (by kernel_rfl), fn_of T (by decide +kernel) (by kernel_rfl) (by kernel_rfl), fn_of T (by decide +kernel) (by kernel_rfl) (by kernel_rfl)⟩
  have X : CX Gm.dn := ⟨top_own T (by kernel_rfl), top_own T (by kernel_rfl), top_own T (by kernel_rfl), top_own T (by kernel_rfl), top_own T (by kernel_rfl), top_own T (by kernel_rfl), top_own T (by kernel_rfl), G.X ("NoName", "TrailError", true) (by decide), G.X ("NotThere", "TrailError", true) (by decide), G.X ("Taken", "TrailError", true) (by decide), G.X ("TooLong", "TrailError", true) (by decide), G.X ("TooMany", "TrailError", true) (by decide), G.X ("NothingDone", "TrailError", true) (by decide), top_val T (by decide +kernel)⟩
  have L : CL Gm.dn C N mN (fmO mN) := ⟨D, X, fn_of T (by decide +kernel) (by kernel_rfl) (by kernel_rfl), fn_of T (by decide +kernel) (by kernel_rfl) (by kernel_rfl), fn_of T (by decide +kernel) (by kernel_rfl) (by kernel_rfl), fn_of T (by decide +kernel) (by kernel_rfl) (by kernel_rfl), fn_of T (by decide +kernel) (by kernel_rfl) (by kernel_rfl), fn_of T (by decide +kernel) (by kernel_rfl) (by kernel_rfl), fn_of T (by decide +kernel) (by kernel_rfl) (by kernel_rfl), fn_of T (by decide +kernel) (by kernel_rfl) (by kernel_rfl), fn_of T (by decide +kernel) (by kernel_rfl) (by kernel_rfl)⟩
  exact head_ok (G := Gm) (K := K_law) (sts := B_law) GO ef rfl rfl hg hL hI (fun _ => rfl) (law_post _ _) (fn_of T (by decide +kernel) (by kernel_rfl) (by kernel_rfl)) (law13 L ⟨i1, i2, i3⟩ (by show 600 ≤ 680 - 1; decide) (by omega))
end Mine

theorem PySem.Challenge.cw_uf020025_13_holds : PySem.Challenge.rw_uf020025_13.Holds :=
  Mine.final
