import PyProof.Rows.All
import Wide.All
import OpenK.AllK
import PySem.Challenge.RW_uf020025_12
set_option Elab.async false
set_option autoImplicit false
set_option linter.all false
set_option genSizeOf false
set_option genInjectivity false
set_option maxRecDepth 100000
set_option maxHeartbeats 4000000
namespace Mine
section
open PySem PySem.W PyProof.Rows
noncomputable abbrev PP : Program := PySem.Challenge.pw_uf020025_12
noncomputable def aR7 (s : Shared) (x t : Str) (b : Bool) : Bool := match s.heap.nsMap mainGlobals x, s.heap.nsMap mainGlobals t with
 | some (.ref C), some (.ref T) => (match s.heap.get? C with
  | some o => (match o.data with
   | .cls cd => cd.mro.contains (.ref T) == b
   | _ => false)
  | none => false)
 | _, _ => false
noncomputable def vw : Program := PySem.W.view PP [1, 2, 3, 4, 5, 6, 7, 8, 10, 11, 12, 13, 14, 15, 16, 17, 19, 20, 21, 22, 23, 24, 25, 26, 27, 28, 30, 31, 33, 34, 35, 36, 37, 38, 40, 41, 42, 44, 45, 46, 47, 48, 49, 50, 51, 52, 53, 54, 55, 56, 57, 58, 59, 60]
noncomputable def vbm : List Value := [.type "ValueError", .type "Exception", .type "BaseException", .type "object"]
noncomputable def bz2 (s : Shared) (v : Value) : Bool := match v with
 | .ref A => (match s.heap.get? A with
  | some o => (match o.data with
   | .cls cd => s.heap.isNs cd.ns && (s.heap.nsMap cd.ns "__class__").isNone
   | _ => false)
  | none => false)
 | _ => false
noncomputable def bg3 (s : Shared) (x : Str) : Bool := match s.heap.nsMap mainGlobals x with
 | some (.ref C) => (match s.heap.get? C with
  | some o => (match o.data with
   | .cls cd => cd.mro.drop 2 == vbm && (cd.mro.take 2).all (bz2 s)
   | _ => false)
  | none => false)
 | _ => false
noncomputable def MX : List Str := ["NoName", "NotThere", "TooLong", "Taken", "TooMany", "NothingDone"]
noncomputable def MY : List Str := ["NoName", "NotThere", "TooLong", "Taken", "TooMany", "NothingDone", "NoNote"]
noncomputable def MR : List (Str × Str × Bool) := MX.map (fun x => (x, ("TrailError" : Str), true)) ++ MX.flatMap fun x => MY.map fun y => (x, y, x == y)
noncomputable def bt : List Obj → Nat → BT → BT
 | [], _, t => t
 | o :: l, n, t => bt l (n + 1) (t.ins n o)
noncomputable def Y6 (tb : String → Option Builtin) (p : Program) (w : World) (n₀ : Nat) (ann : Option Value) : Nat → SharedT → Thread → Option SharedT
 | 0, _, _ => none
 | n + 1, s, t => match through t with
  | true => some s
  | false => match stepOk n₀ ann t with
   | false => none
   | true => match stepT (denote tb) p w s t with
    | some (s', t') => Y6 tb p w n₀ ann n s' t'
    | none => none
theorem ai7 {tb : String → Option Builtin} {p : Program} {w : World} {n₀ : Nat} {ann : Option Value} : ∀ {n : Nat} {s r : SharedT} {t : Thread}, Y6 tb p w n₀ ann n s t = some r → topRun tb p w n₀ ann n s.abs t = some r.abs
 | 0, _, _, _, h => by cases h
 | n + 1, s, r, t, h => by
  unfold Y6 at h
  unfold topRun
  cases he : through t with
  | true => rw [he] at h; cases h; rfl
  | false =>
   rw [he] at h
   cases hk : stepOk n₀ ann t with
   | false => rw [hk] at h; cases h
   | true =>
    rw [hk] at h
    cases hs : stepT (denote tb) p w s t with
    | none => rw [hs] at h; cases h
    | some x => obtain ⟨s₂, t₂⟩ := x; rw [hs] at h; rw [stepT_spec hs]; exact ai7 h
theorem bI6 (P : Params) : absHeap (bt (boot_heap P).objs.toList 0 .nil) 11 (boot_heap P).life = boot_heap P := by kernel_rfl
noncomputable abbrev sT (w : World) (os : OsState) : SharedT := ⟨bt (boot_heap w.params).objs.toList 0 .nil, 11, (boot_heap w.params).life, #[], boot_drawn, boot_toks, os⟩
theorem bs4 (P : Params) : ((boot_heap P).isNs mainGlobals && (#[] : Array GenState).size == 0) = true ∧ (boot_heap P).objs.size = 11 ∧ (boot_heap P).nsMap mainGlobals "__annotations__" = some (.ref 6) := ⟨by kernel_rfl, by kernel_rfl, by kernel_rfl⟩
theorem bp2 {p q : Program} {loose : List Str} {Xt : Shared → Bool} {N : Nat} (e : opening p = plainProg p.main.scope.names) (hN : Nat.ble 600 N = true) (f : ∀ s, fenceModules? p s = some s)
  (h : ∀ w os, ∃ r, Y6 treeTable p w 11 (some (.ref 6)) N (sT w os) (topStub p) = some r ∧ (staticsOk (importedModules p.main.body) (boot_heap w.params) r.abs.heap && namesBound p r.abs.heap && gensDone r.abs && laidKept (boot_heap w.params) r.abs.heap) = true ∧ openSeen q loose (importedModules p.main.body) Xt true r.abs = openGood q loose) :
  LeftO p q loose Xt (Hook.obs Hook.none) (Hook.val Hook.none) N := fun w => by
 obtain ⟨⟨hp, gs, d, k, os⟩, e1, e2⟩ := Option.map_eq_some_iff.mp (boot_open e hN f w)
 obtain ⟨rfl, rfl, rfl, rfl⟩ : hp = boot_heap w.params ∧ gs = #[] ∧ d = boot_drawn ∧ k = boot_toks := by simpa using e2
 obtain ⟨r, h1, h2, h3⟩ := h w os
 have h1 := ai7 h1
 unfold SharedT.abs at h1
 rw [bI6] at h1
 obtain ⟨b1, b2, b3⟩ := bs4 w.params
 unfold openEnds
 rw [e1]
 show (topFrom treeTable p w N _).map _ = _
 unfold topFrom
 dsimp only
 rw [b1, b2, b3]
 dsimp only
 rw [h1]
 show ((match staticsOk (importedModules p.main.body) (boot_heap w.params) r.abs.heap && namesBound p r.abs.heap && gensDone r.abs && laidKept (boot_heap w.params) r.abs.heap with | true => some r.abs | false => none).map _) = _
 rw [h2]
 exact congrArg some (Prod.ext h3 rfl)
theorem core (w : World) (os : OsState) : ((Y6 treeTable PP w 11 (some (.ref 6)) 9000 (sT w os) (topStub PP)).map fun r => ((staticsOk (importedModules PP.main.body) (boot_heap w.params) r.abs.heap && namesBound PP r.abs.heap && gensDone r.abs && laidKept (boot_heap w.params) r.abs.heap), openSeen vw [] (importedModules PP.main.body) (fun s => ((MR.all fun p => aR7 s p.1 p.2.1 p.2.2) && MX.all (bg3 s)) && recOk (RowW.records (OpenRow.toRowW PySem.Challenge.rw_uf020025_12.row)) s) true r.abs)) = some (true, openGood vw []) := by kernel_rfl
theorem left : LeftO PP vw [] (fun s => ((MR.all fun p => aR7 s p.1 p.2.1 p.2.2) && MX.all (bg3 s)) && recOk (RowW.records (OpenRow.toRowW PySem.Challenge.rw_uf020025_12.row)) s) (Hook.obs Hook.none) (Hook.val Hook.none) 9000 := bp2 (by kernel_rfl) rfl (fun s => by kernel_rfl) fun w os => by
 obtain ⟨r, h1, h2⟩ := Option.map_eq_some_iff.mp (core w os)
 exact ⟨r, h1, congrArg Prod.fst h2, congrArg Prod.snd h2⟩
end
end Mine
namespace Mine
abbrev Ex := Nat.Internal.Linear.Expr
inductive Ps where
 | o | k (n : Nat) (l r : Ex) (t : Ps)
noncomputable def Ps.imp (x : Lean.RArray Nat) (P : Prop) (t : Ps) : Prop := Ps.rec P (fun _ l r _ ih => l.denote x ≤ r.denote x → ih) t
noncomputable def Ps.l (t : Ps) : Ex := Ps.rec (.num 0) (fun k l _ _ ih => .add (.mulL k l) ih) t
noncomputable def Ps.r (t : Ps) : Ex := Ps.rec (.num 0) (fun k _ r _ ih => .add (.mulL k r) ih) t
theorem aB2 (x : Lean.RArray Nat) (P : Prop) (t : Ps) : (t.l.denote x ≤ t.r.denote x → P) → t.imp x P :=
 Ps.rec (motive := fun t => (t.l.denote x ≤ t.r.denote x → P) → t.imp x P) (fun h => h (Nat.le_refl _)) (fun k _ _ _ ih h q => ih fun g => h (Nat.add_le_add (Nat.mul_le_mul_left k q) g)) t
theorem lin (x : Lean.RArray Nat) (t : Ps) (l r : Ex) (h : (Nat.Internal.Linear.ExprCnstr.mk false (.add l t.r) (.add r t.l)).toNormPoly.isValid = true) : t.imp x (l.denote x ≤ r.denote x) :=
 aB2 x _ t fun g => Nat.le_of_add_le_add_right (Nat.le_trans (of_eq_true (Nat.Internal.Linear.ExprCnstr.eq_true_of_isValid x _ h) : (Nat.Internal.Linear.Expr.add l t.r).denote x ≤ (Nat.Internal.Linear.Expr.add r t.l).denote x) (Nat.add_le_add_left g _))
theorem aS0 (x : Lean.RArray Nat) (t : Ps) (h : (Nat.Internal.Linear.ExprCnstr.mk false t.l t.r).toNormPoly.isUnsat = true) : t.imp x False :=
 aB2 x _ t fun g => (Nat.Internal.Linear.ExprCnstr.eq_false_of_isUnsat x _ h).mp g
theorem tt : true = true := rfl
theorem A7 (a b : Nat) : a ≤ (a - b) + b := Nat.sub_le_iff_le_add.mp (Nat.le_refl _)
theorem F1 {a b : Nat} (h : b ≤ a) : (a - b) + b ≤ a := Nat.le_of_eq (Nat.sub_add_cancel h)
theorem sbZ {a b : Nat} (h : a ≤ b) : a - b ≤ 0 := Nat.le_of_eq (Nat.sub_eq_zero_of_le h)
theorem Z4 {a b : Nat} (h : a ≤ b) : a ≤ min a b := Nat.le_min.mpr ⟨Nat.le_refl _, h⟩
theorem aH5 {a b : Nat} (h : b ≤ a) : b ≤ min a b := Nat.le_min.mpr ⟨h, Nat.le_refl _⟩
theorem cb3 {a b : Nat} (h : b ≤ a) : max a b ≤ a := Nat.max_le.mpr ⟨Nat.le_refl _, h⟩
theorem cb2 {a b : Nat} (h : a ≤ b) : max a b ≤ b := Nat.max_le.mpr ⟨h, Nat.le_refl _⟩
theorem bw5 (a : Nat) : 2 * (a / 2) ≤ a := Nat.mul_div_le a 2
theorem bw4 (a : Nat) : a ≤ 2 * (a / 2) + 1 := Nat.le_trans (Nat.le_of_eq (Nat.div_add_mod a 2).symm) (Nat.add_le_add_left (Nat.le_of_lt_succ (Nat.mod_lt a (Nat.succ_pos 1))) _)
theorem ac9 {a b : Nat} (h : ¬ a = b) : a + 1 ≤ b ∨ b + 1 ≤ a := Nat.lt_or_gt_of_ne h
theorem l'0 (t : Ps) (l r : Ex) (h : (Nat.Internal.Linear.ExprCnstr.mk false (.add l t.r) (.add r t.l)).toNormPoly.isValid = true) : t.imp (.leaf 0) (l.denote (.leaf 0) ≤ r.denote (.leaf 0)) := lin _ t l r h
theorem o5 (a0 : Nat) (t : Ps) (l r : Ex) (h : (Nat.Internal.Linear.ExprCnstr.mk false (.add l t.r) (.add r t.l)).toNormPoly.isValid = true) : t.imp (.leaf a0) (l.denote (.leaf a0) ≤ r.denote (.leaf a0)) := lin _ t l r h
theorem f'1 (a0 : Nat) (t : Ps) (h : (Nat.Internal.Linear.ExprCnstr.mk false t.l t.r).toNormPoly.isUnsat = true) : t.imp (.leaf a0) False := aS0 _ t h
theorem n8 (a0 a1 : Nat) (t : Ps) (l r : Ex) (h : (Nat.Internal.Linear.ExprCnstr.mk false (.add l t.r) (.add r t.l)).toNormPoly.isValid = true) : t.imp (.branch 1 (.leaf a0) (.leaf a1)) (l.denote (.branch 1 (.leaf a0) (.leaf a1)) ≤ r.denote (.branch 1 (.leaf a0) (.leaf a1))) := lin _ t l r h
theorem f'2 (a0 a1 : Nat) (t : Ps) (h : (Nat.Internal.Linear.ExprCnstr.mk false t.l t.r).toNormPoly.isUnsat = true) : t.imp (.branch 1 (.leaf a0) (.leaf a1)) False := aS0 _ t h
theorem z3 (a0 a1 a2 : Nat) (t : Ps) (l r : Ex) (h : (Nat.Internal.Linear.ExprCnstr.mk false (.add l t.r) (.add r t.l)).toNormPoly.isValid = true) : t.imp (.branch 1 (.leaf a0) (.branch 2 (.leaf a1) (.leaf a2))) (l.denote (.branch 1 (.leaf a0) (.branch 2 (.leaf a1) (.leaf a2))) ≤ r.denote (.branch 1 (.leaf a0) (.branch 2 (.leaf a1) (.leaf a2)))) := lin _ t l r h
theorem f'3 (a0 a1 a2 : Nat) (t : Ps) (h : (Nat.Internal.Linear.ExprCnstr.mk false t.l t.r).toNormPoly.isUnsat = true) : t.imp (.branch 1 (.leaf a0) (.branch 2 (.leaf a1) (.leaf a2))) False := aS0 _ t h
theorem I0 (a0 a1 a2 a3 : Nat) (t : Ps) (l r : Ex) (h : (Nat.Internal.Linear.ExprCnstr.mk false (.add l t.r) (.add r t.l)).toNormPoly.isValid = true) : t.imp (.branch 1 (.leaf a0) (.branch 2 (.leaf a1) (.branch 3 (.leaf a2) (.leaf a3)))) (l.denote (.branch 1 (.leaf a0) (.branch 2 (.leaf a1) (.branch 3 (.leaf a2) (.leaf a3)))) ≤ r.denote (.branch 1 (.leaf a0) (.branch 2 (.leaf a1) (.branch 3 (.leaf a2) (.leaf a3))))) := lin _ t l r h
theorem f'4 (a0 a1 a2 a3 : Nat) (t : Ps) (h : (Nat.Internal.Linear.ExprCnstr.mk false t.l t.r).toNormPoly.isUnsat = true) : t.imp (.branch 1 (.leaf a0) (.branch 2 (.leaf a1) (.branch 3 (.leaf a2) (.leaf a3)))) False := aS0 _ t h
theorem l'5 (a0 a1 a2 a3 a4 : Nat) (t : Ps) (l r : Ex) (h : (Nat.Internal.Linear.ExprCnstr.mk false (.add l t.r) (.add r t.l)).toNormPoly.isValid = true) : t.imp (.branch 1 (.leaf a0) (.branch 2 (.leaf a1) (.branch 3 (.leaf a2) (.branch 4 (.leaf a3) (.leaf a4))))) (l.denote (.branch 1 (.leaf a0) (.branch 2 (.leaf a1) (.branch 3 (.leaf a2) (.branch 4 (.leaf a3) (.leaf a4))))) ≤ r.denote (.branch 1 (.leaf a0) (.branch 2 (.leaf a1) (.branch 3 (.leaf a2) (.branch 4 (.leaf a3) (.leaf a4)))))) := lin _ t l r h
theorem f'5 (a0 a1 a2 a3 a4 : Nat) (t : Ps) (h : (Nat.Internal.Linear.ExprCnstr.mk false t.l t.r).toNormPoly.isUnsat = true) : t.imp (.branch 1 (.leaf a0) (.branch 2 (.leaf a1) (.branch 3 (.leaf a2) (.branch 4 (.leaf a3) (.leaf a4))))) False := aS0 _ t h
theorem l'6 (a0 a1 a2 a3 a4 a5 : Nat) (t : Ps) (l r : Ex) (h : (Nat.Internal.Linear.ExprCnstr.mk false (.add l t.r) (.add r t.l)).toNormPoly.isValid = true) : t.imp (.branch 1 (.leaf a0) (.branch 2 (.leaf a1) (.branch 3 (.leaf a2) (.branch 4 (.leaf a3) (.branch 5 (.leaf a4) (.leaf a5)))))) (l.denote (.branch 1 (.leaf a0) (.branch 2 (.leaf a1) (.branch 3 (.leaf a2) (.branch 4 (.leaf a3) (.branch 5 (.leaf a4) (.leaf a5)))))) ≤ r.denote (.branch 1 (.leaf a0) (.branch 2 (.leaf a1) (.branch 3 (.leaf a2) (.branch 4 (.leaf a3) (.branch 5 (.leaf a4) (.leaf a5))))))) := lin _ t l r h
theorem f'6 (a0 a1 a2 a3 a4 a5 : Nat) (t : Ps) (h : (Nat.Internal.Linear.ExprCnstr.mk false t.l t.r).toNormPoly.isUnsat = true) : t.imp (.branch 1 (.leaf a0) (.branch 2 (.leaf a1) (.branch 3 (.leaf a2) (.branch 4 (.leaf a3) (.branch 5 (.leaf a4) (.leaf a5)))))) False := aS0 _ t h
theorem l'7 (a0 a1 a2 a3 a4 a5 a6 : Nat) (t : Ps) (l r : Ex) (h : (Nat.Internal.Linear.ExprCnstr.mk false (.add l t.r) (.add r t.l)).toNormPoly.isValid = true) : t.imp (.branch 1 (.leaf a0) (.branch 2 (.leaf a1) (.branch 3 (.leaf a2) (.branch 4 (.leaf a3) (.branch 5 (.leaf a4) (.branch 6 (.leaf a5) (.leaf a6))))))) (l.denote (.branch 1 (.leaf a0) (.branch 2 (.leaf a1) (.branch 3 (.leaf a2) (.branch 4 (.leaf a3) (.branch 5 (.leaf a4) (.branch 6 (.leaf a5) (.leaf a6))))))) ≤ r.denote (.branch 1 (.leaf a0) (.branch 2 (.leaf a1) (.branch 3 (.leaf a2) (.branch 4 (.leaf a3) (.branch 5 (.leaf a4) (.branch 6 (.leaf a5) (.leaf a6)))))))) := lin _ t l r h
noncomputable abbrev c8 : Ex := .var 0
noncomputable abbrev d5 : Ex := .var 1
noncomputable abbrev e9 : Ex := .var 2
noncomputable abbrev o7 : Ex := .var 3
noncomputable abbrev A9 : Ex := .var 4
noncomputable abbrev v'5 : Ex := .var 5
noncomputable abbrev v'6 : Ex := .var 6
noncomputable abbrev w9 : Ex := .num 0
noncomputable abbrev k9 : Ex := .num 1
noncomputable abbrev I7 : Ex := .num 2
noncomputable abbrev R4 : Ex := .num 3
noncomputable abbrev c'4 : Ex := .num 4
noncomputable abbrev c'5 : Ex := .num 5
noncomputable abbrev c'6 : Ex := .num 6
noncomputable abbrev c'8 : Ex := .num 8
noncomputable abbrev i9 : Ex := .add c8 k9
noncomputable abbrev y0 : Ex := .add d5 k9
noncomputable abbrev D9 : Ex := .add e9 k9
noncomputable abbrev I9 : Ex := .add o7 k9
noncomputable abbrev s'4 : Ex := .add A9 k9
noncomputable abbrev s'5 : Ex := .add v'5 k9
noncomputable abbrev s'6 : Ex := .add v'6 k9
end Mine
namespace Mine
theorem a2 {x0 x1 x2 x3 x4 x5 : Nat} (h0 : ((x0 < x1) ∧ ((x0 < x2) ∧ (x3 = x4))) ↔ (x0 < x5)) (h1 : (x0 + 1) ≤ (x5 + 1)) : (((x0 + 1) < (x1 + 1)) ∧ (((x0 + 1) < (x2 + 1)) ∧ (x3 = x4))) ↔ ((x0 + 1) < (x5 + 1)) := (and_congr Nat.succ_lt_succ_iff (and_congr Nat.succ_lt_succ_iff Iff.rfl)).trans (h0.trans Nat.succ_lt_succ_iff.symm)
theorem a7 {x0 : Nat}  (h0 : x0 < 8) : ((x0 + 0) + 0) < 30 := o5 x0 (.k 1 i9 c'8 .o) (.add (.add (.add c8 w9) w9) k9) (.num 30) tt h0
theorem a9 {x0 x1 : Nat}  (h0 : x0 < x1) : x0 ≤ (x1 - 1) := z3 x0 x1 (x1 - 1) (.k 1 i9 d5 (.k 1 d5 D9 .o)) c8 e9 tt h0 (A7 x1 1)
theorem a10 {x1 : Nat} {x0 : Int} (h0 : x0 < (0 : Int)) : (max (0 : Int) (min (x0 + ((x1 : Nat) : Int)) ((x1 : Nat) : Int))) = (((Int.toNat (x0 + ((x1 : Nat) : Int))) : Nat) : Int) := by rw [Int.min_eq_left (Int.le_trans (Int.add_le_add_right (Int.le_of_lt h0) _) (Int.le_of_eq (Int.zero_add _))), Int.max_comm]; exact (Int.ofNat_toNat _).symm
theorem a11 {x1 : Nat} {x0 : Int} (h0 : ¬ (x0 < (0 : Int))) : (max (0 : Int) (min x0 ((x1 : Nat) : Int))) = (((min (Int.toNat x0) x1) : Nat) : Int) := by obtain ⟨n, rfl⟩ := Int.eq_ofNat_of_zero_le (Int.not_lt.mp h0); refine (Int.max_eq_right (Int.le_min.mpr ⟨Int.natCast_nonneg _, Int.natCast_nonneg _⟩)).trans ((Nat.le_total n x1).elim (fun h => ?_) fun h => ?_); (rw [Int.toNat_natCast, Nat.min_eq_left h]; exact Int.min_eq_left (Int.ofNat_le.mpr h)); (rw [Int.toNat_natCast, Nat.min_eq_right h]; exact Int.min_eq_right (Int.ofNat_le.mpr h))
theorem a12 {x0 x1 : Nat}   : x0 ≤ (x1 + (x0 - x1)) := z3 x0 (x0 - x1) x1 (.k 1 c8 (.add d5 e9) .o) c8 (.add e9 d5) tt (A7 x0 x1)
theorem a16 {x0 x1 x2 x3 x4 x5 : Nat}  (h0 : (x0 + x1) < x2) (h1 : (x3 ≤ x4) ∨ (x2 ≤ x0)) (h2 : (x4 + x5) < x3) : False := Or.elim h1 (fun u1 => (f'3 x4 x5 x3 (.k 1 (.add (.add c8 d5) k9) e9 (.k 1 e9 c8 .o)) tt h2 u1)) (fun u2 => (f'3 x0 x1 x2 (.k 1 (.add (.add c8 d5) k9) e9 (.k 1 e9 c8 .o)) tt h0 u2))
theorem a17 {x0 x1 : Nat}  (h0 : (x1 + 1) = x0) : (x0 - 1) = x1 := Nat.le_antisymm (z3 x0 x1 (x0 - 1) (.k 1 c8 y0 (.k 1 D9 c8 .o)) e9 d5 tt (Nat.le_of_eq (Eq.symm h0)) (F1 (n8 x1 x0 (.k 1 i9 d5 .o) k9 d5 tt (Nat.le_of_eq h0)))) (z3 x1 x0 (x0 - 1) (.k 1 i9 d5 (.k 1 d5 D9 .o)) c8 e9 tt (Nat.le_of_eq h0) (A7 x0 1))
theorem a19 {x0 x1 : Nat}   : x0 ≤ (x0 + x1) := n8 x0 x1 .o c8 (.add c8 d5) tt
theorem a21 {x0 x1 x2 x3 : Nat}  (h0 : (x3 + (x0 + x1)) < x2) : (x0 + x1) < (x2 - x3) := l'5 x3 x0 x1 x2 (x2 - x3) (.k 1 (.add (.add c8 (.add d5 e9)) k9) o7 (.k 1 o7 (.add A9 c8) .o)) (.add (.add d5 e9) k9) A9 tt h0 (A7 x2 x3)
theorem a24 {x0 x1 : Nat}  (h0 : x1 < x0) : 0 < (x0 - x1) := z3 x1 x0 (x0 - x1) (.k 1 i9 d5 (.k 1 d5 (.add e9 c8) .o)) (.add w9 k9) e9 tt h0 (A7 x0 x1)
theorem a29 {x0 x1 x2 : Nat}  (h0 : ¬ (x2 < x0)) : (min x0 x1) ≤ x2 := z3 x0 x2 (min x0 x1) (.k 1 c8 d5 (.k 1 e9 c8 .o)) e9 d5 tt (Nat.le_of_not_lt h0) (Nat.min_le_left x0 x1)
theorem a32 {x0 x1 x2 : Nat}  (h0 : (x0 + x2) ≤ x1) : (min x0 x1) = x0 := Nat.le_antisymm (n8 (min x0 x1) x0 (.k 1 c8 d5 .o) c8 d5 tt (Nat.min_le_left x0 x1)) (n8 x0 (min x0 x1) (.k 1 c8 d5 .o) c8 d5 tt (Z4 (z3 x0 x2 x1 (.k 1 (.add c8 d5) e9 .o) c8 e9 tt h0)))
theorem a33 {x0 x1 : Nat}  (h0 : ¬ (x1 < x0)) : x0 ≤ x1 := n8 x0 x1 (.k 1 c8 d5 .o) c8 d5 tt (Nat.le_of_not_lt h0)
theorem a35 {x0 x1 : Nat}  (h0 : (x0 - 1) < x1) (h1 : 0 < x0) : (x0 - 1) < (min x0 x1) := z3 (x0 - 1) x0 (min x0 x1) (.k 1 i9 d5 (.k 1 d5 e9 .o)) i9 e9 tt (F1 (o5 x0 (.k 1 (.add w9 k9) c8 .o) k9 c8 tt h1)) (Z4 (z3 x0 (x0 - 1) x1 (.k 1 c8 y0 (.k 1 y0 e9 .o)) c8 e9 tt (A7 x0 1) h0))
theorem a38 {x0 x1 x2 : Nat}  (h0 : ¬ (x1 < (x2 + x0))) : x0 ≤ (x1 - x2) := I0 x2 x0 x1 (x1 - x2) (.k 1 (.add c8 d5) e9 (.k 1 e9 (.add o7 c8) .o)) d5 o7 tt (Nat.le_of_not_lt h0) (A7 x1 x2)
theorem a39 {x0 x1 : Nat}  (h0 : x0 ≤ x1) : (x0 + (x1 - x0)) = x1 := Nat.le_antisymm (z3 (x1 - x0) x0 x1 (.k 1 (.add c8 d5) e9 .o) (.add d5 c8) e9 tt (F1 (n8 x0 x1 (.k 1 c8 d5 .o) c8 d5 tt h0))) (z3 x1 (x1 - x0) x0 (.k 1 c8 (.add d5 e9) .o) c8 (.add e9 d5) tt (A7 x1 x0))
theorem a41 {x0 x1 x2 : Nat}  (h0 : ¬ (x0 < (x1 + x2))) : x0 = ((x1 + x2) + ((x0 - x1) - x2)) := Nat.le_antisymm (l'5 (x0 - x1) ((x0 - x1) - x2) x2 x0 x1 (.k 1 c8 (.add d5 e9) (.k 1 o7 (.add c8 A9) .o)) o7 (.add (.add A9 e9) d5) tt (A7 (x0 - x1) x2) (A7 x0 x1)) (l'5 ((x0 - x1) - x2) x2 (x0 - x1) x1 x0 (.k 1 (.add c8 d5) e9 (.k 1 (.add e9 o7) A9 .o)) (.add (.add o7 d5) c8) A9 tt (F1 (I0 x1 x2 x0 (x0 - x1) (.k 1 (.add c8 d5) e9 (.k 1 e9 (.add o7 c8) .o)) d5 o7 tt (Nat.le_of_not_lt h0) (A7 x0 x1))) (F1 (z3 x1 x2 x0 (.k 1 (.add c8 d5) e9 .o) c8 e9 tt (Nat.le_of_not_lt h0))))
theorem a43 {x0 x1 : Nat}   : (min x0 x1) ≤ ((x0 - 1) + 1) := z3 (min x0 x1) x0 (x0 - 1) (.k 1 c8 d5 (.k 1 d5 D9 .o)) c8 D9 tt (Nat.min_le_left x0 x1) (A7 x0 1)
theorem a50 {x0 x1 x2 x3 x4 : Nat}  (h0 : ((x1 + (x2 + 1)) ≤ x0) ∧ ((x0 < ((x1 + (x2 + 1)) + x3)) ∧ (x0 < x4))) : (x0 - (x1 + x2)) = ((x0 - (x1 + (x2 + 1))) + 1) := Nat.le_antisymm (l'5 x0 (x0 - (x1 + (x2 + 1))) x1 x2 (x0 - (x1 + x2)) (.k 1 c8 (.add d5 (.add e9 I9)) (.k 1 (.add A9 (.add e9 o7)) c8 .o)) A9 y0 tt (A7 x0 (x1 + (x2 + 1))) (F1 (z3 x1 x2 x0 (.k 1 (.add c8 y0) e9 .o) (.add c8 d5) e9 tt (And.left h0)))) (l'5 x0 (x0 - (x1 + x2)) x1 x2 (x0 - (x1 + (x2 + 1))) (.k 1 c8 (.add d5 (.add e9 o7)) (.k 1 (.add A9 (.add e9 I9)) c8 .o)) s'4 d5 tt (A7 x0 (x1 + x2)) (F1 (z3 x1 x2 x0 (.k 1 (.add c8 y0) e9 .o) (.add c8 y0) e9 tt (And.left h0))))
theorem a55 {x0 x1 x2 : Nat}  (h0 : (x0 ≤ x2) ∧ (x2 < x1)) : x0 ≤ (((x0 + x1) - 1) - x2) := l'5 x2 x1 ((x0 + x1) - 1) (((x0 + x1) - 1) - x2) x0 (.k 1 i9 d5 (.k 1 e9 (.add o7 c8) (.k 1 (.add A9 d5) D9 .o))) A9 o7 tt (And.right h0) (A7 ((x0 + x1) - 1) x2) (A7 (x0 + x1) 1)
theorem a56 {x0 x1 x2 : Nat}  (h0 : x0 < (x1 + x2)) : x0 ≤ ((x1 + x2) - 1) := I0 x0 x1 x2 ((x1 + x2) - 1) (.k 1 i9 (.add d5 e9) (.k 1 (.add d5 e9) I9 .o)) c8 o7 tt h0 (A7 (x1 + x2) 1)
theorem a60 {x0 x1 x2 : Nat}  (h0 : (x0 ≤ x2) ∧ (x2 < x1)) : (((x0 + x1) - 1) - x2) < x1 := l'5 x0 x2 (((x0 + x1) - 1) - x2) ((x0 + x1) - 1) x1 (.k 1 c8 d5 (.k 1 (.add e9 d5) o7 (.k 1 I9 (.add c8 A9) .o))) D9 A9 tt (And.left h0) (F1 (I0 x2 x1 x0 ((x0 + x1) - 1) (.k 1 i9 d5 (.k 1 (.add e9 d5) I9 .o)) c8 o7 tt (And.right h0) (A7 (x0 + x1) 1))) (F1 (z3 x2 x1 x0 (.k 1 i9 d5 .o) k9 (.add e9 d5) tt (And.right h0)))
theorem a62 {x0 x1 x2 : Nat}  (h0 : x2 < (x0 + x1)) : x0 ≤ (((x0 + (x0 + x1)) - 1) - x2) := l'5 x2 x0 x1 ((x0 + (x0 + x1)) - 1) (((x0 + (x0 + x1)) - 1) - x2) (.k 1 i9 (.add d5 e9) (.k 1 o7 (.add A9 c8) (.k 1 (.add d5 (.add d5 e9)) I9 .o))) d5 A9 tt h0 (A7 ((x0 + (x0 + x1)) - 1) x2) (A7 (x0 + (x0 + x1)) 1)
theorem a63 {x0 x1 x2 x3 : Nat}  (h0 : x2 < (x0 + x1)) (h1 : x3 ≤ x2) : (((x0 + (x0 + x1)) - 1) - x2) ≤ (((x0 + (x0 + x1)) - 1) - x3) := l'5 x3 x2 ((x0 + (x0 + x1)) - 1) (((x0 + (x0 + x1)) - 1) - x3) (((x0 + (x0 + x1)) - 1) - x2) (.k 1 c8 d5 (.k 1 e9 (.add o7 c8) (.k 1 (.add A9 d5) e9 .o))) A9 o7 tt h1 (A7 ((x0 + (x0 + x1)) - 1) x3) (F1 (I0 x2 x0 x1 ((x0 + (x0 + x1)) - 1) (.k 1 i9 (.add d5 e9) (.k 1 (.add d5 (.add d5 e9)) I9 .o)) c8 o7 tt h0 (A7 (x0 + (x0 + x1)) 1)))
theorem a64 {x0 x1 x2 x3 : Nat}  (h0 : x0 ≤ x2) (h1 : x3 < (x0 + x1)) : (((x0 + (x0 + x1)) - 1) - x2) < (x0 + x1) := Or.elim (Nat.le_total ((x0 + (x0 + x1)) - 1) x2) (fun u2 => (I0 x3 x0 x1 (((x0 + (x0 + x1)) - 1) - x2) (.k 1 i9 (.add d5 e9) (.k 1 o7 w9 .o)) I9 (.add d5 e9) tt h1 (sbZ u2))) (fun u3 => (l'5 x0 x2 ((x0 + (x0 + x1)) - 1) x1 (((x0 + (x0 + x1)) - 1) - x2) (.k 1 c8 d5 (.k 1 D9 (.add c8 (.add c8 o7)) (.k 1 (.add A9 d5) e9 .o))) s'4 (.add c8 o7) tt h0 (F1 (z3 x3 x0 x1 (.k 1 i9 (.add d5 e9) .o) k9 (.add d5 (.add d5 e9)) tt h1)) (F1 u3)))
theorem a65 {x0 x1 x2 x3 : Nat}  (h0 : x0 < (min (x1 - x2) (x3 - x2))) : x0 < (x1 - x2) := z3 (min (x1 - x2) (x3 - x2)) (x1 - x2) x0 (.k 1 c8 d5 (.k 1 D9 c8 .o)) D9 d5 tt (Nat.min_le_left (x1 - x2) (x3 - x2)) h0
theorem a66 {x0 x1 x2 x3 : Nat}  (h0 : x1 < (x3 - x0)) (h1 : x3 ≤ x2) : (x0 + x1) < x2 := Or.elim (Nat.le_total x3 x0) (fun u2 => (False.elim (f'2 x1 (x3 - x0) (.k 1 i9 d5 (.k 1 d5 w9 .o)) tt h0 (sbZ u2)))) (fun u3 => (l'5 x1 (x3 - x0) x3 x2 x0 (.k 1 i9 d5 (.k 1 e9 o7 (.k 1 (.add d5 A9) e9 .o))) (.add (.add A9 c8) k9) o7 tt h0 h1 (F1 u3)))
theorem a68 {x0 x1 x2 : Nat}  (h0 : x1 < (x2 - x0)) : (x0 + x1) < x2 := Or.elim (Nat.le_total x2 x0) (fun u2 => (False.elim (f'2 x1 (x2 - x0) (.k 1 i9 d5 (.k 1 d5 w9 .o)) tt h0 (sbZ u2)))) (fun u3 => (I0 x1 (x2 - x0) x0 x2 (.k 1 i9 d5 (.k 1 (.add d5 e9) o7 .o)) (.add (.add e9 c8) k9) o7 tt h0 (F1 u3)))
theorem a72 {x0 x1 x2 : Nat}  (h0 : (x2 + x0) ≤ x1) : x0 ≤ (x1 - x2) := I0 x2 x0 x1 (x1 - x2) (.k 1 (.add c8 d5) e9 (.k 1 e9 (.add o7 c8) .o)) d5 o7 tt h0 (A7 x1 x2)
theorem a73 {x0 x1 x2 x3 : Nat}  (h0 : x0 < (x1 + x2)) (h1 : x3 < x2) : (x0 - x1) < x2 := Or.elim (Nat.le_total x0 x1) (fun u2 => (z3 x3 x2 (x0 - x1) (.k 1 i9 d5 (.k 1 e9 w9 .o)) D9 d5 tt h1 (sbZ u2))) (fun u3 => (I0 x0 x1 x2 (x0 - x1) (.k 1 i9 (.add d5 e9) (.k 1 (.add o7 d5) c8 .o)) I9 e9 tt h0 (F1 u3)))
theorem a76 {x0 x1 x2 x3 x4 : Nat}  (h0 : (x3 - x2) = 0) (h1 : x0 < x4) (h2 : x4 = (x1 + x3)) : x0 < (x1 + x2) := l'6 x3 (x3 - x2) x2 x0 x4 x1 (.k 1 c8 (.add d5 e9) (.k 1 I9 A9 (.k 1 A9 (.add v'5 c8) (.k 1 d5 w9 .o)))) I9 (.add v'5 e9) tt (A7 x3 x2) h1 (Nat.le_of_eq h2) (sbZ (z3 x3 (x3 - x2) x2 (.k 1 c8 (.add d5 e9) (.k 1 d5 w9 .o)) c8 e9 tt (A7 x3 x2) (Nat.le_of_eq h0)))
theorem a78 {x0 x1 x2 x3 : Nat}  (h0 : 1 ≤ x2) (h1 : x3 = (x0 + x2)) (h2 : ¬ ((x2 - x1) = 0)) : (((x0 + x1) + (x2 - x1)) - 1) = (x3 - 1) := Or.elim (ac9 h2) (fun u1 => (Nat.le_antisymm (False.elim (f'1 (x2 - x1) (.k 1 i9 w9 .o) tt u1)) (l'7 x3 x0 x2 (x2 - x1) x1 (((x0 + x1) + (x2 - x1)) - 1) (x3 - 1) (.k 1 c8 (.add d5 e9) (.k 1 e9 (.add o7 A9) (.k 1 (.add (.add d5 A9) o7) s'5 (.k 1 s'6 c8 .o)))) v'6 v'5 tt (Nat.le_of_eq h1) (A7 x2 x1) (A7 ((x0 + x1) + (x2 - x1)) 1) (F1 (n8 (x2 - x1) x3 (.k 1 i9 w9 .o) k9 d5 tt u1))))) (fun u2 => (Or.elim (Nat.le_total x2 x1) (fun u3 => (Nat.le_antisymm (False.elim (f'1 (x2 - x1) (.k 1 (.add w9 k9) c8 (.k 1 c8 w9 .o)) tt u2 (sbZ u3))) (l'7 x3 x0 x2 x1 (x2 - x1) (((x0 + x1) + (x2 - x1)) - 1) (x3 - 1) (.k 1 c8 (.add d5 e9) (.k 1 (.add (.add d5 o7) A9) s'5 (.k 1 e9 o7 (.k 1 s'6 c8 .o)))) v'6 v'5 tt (Nat.le_of_eq h1) (A7 ((x0 + x1) + (x2 - x1)) 1) u3 (F1 (n8 (x2 - x1) x3 (.k 1 (.add w9 k9) c8 (.k 1 c8 w9 .o)) k9 d5 tt u2 (sbZ u3)))))) (fun u4 => (Nat.le_antisymm (l'7 x0 x2 x3 (x3 - 1) (x2 - x1) x1 (((x0 + x1) + (x2 - x1)) - 1) (.k 1 (.add c8 d5) e9 (.k 1 e9 I9 (.k 1 (.add A9 v'5) d5 (.k 1 s'6 (.add (.add c8 v'5) A9) .o)))) v'6 o7 tt (Nat.le_of_eq (Eq.symm h1)) (A7 x3 1) (F1 u4) (F1 (z3 (x2 - x1) x0 x1 (.k 1 (.add w9 k9) c8 .o) k9 (.add (.add d5 e9) c8) tt u2))) (l'7 x3 x0 x2 (x2 - x1) x1 (((x0 + x1) + (x2 - x1)) - 1) (x3 - 1) (.k 1 c8 (.add d5 e9) (.k 1 e9 (.add o7 A9) (.k 1 (.add (.add d5 A9) o7) s'5 (.k 1 s'6 c8 .o)))) v'6 v'5 tt (Nat.le_of_eq h1) (A7 x2 x1) (A7 ((x0 + x1) + (x2 - x1)) 1) (F1 (z3 x2 x0 x3 (.k 1 k9 c8 (.k 1 (.add d5 c8) e9 .o)) k9 e9 tt h0 (Nat.le_of_eq (Eq.symm h1)))))))))
theorem a83 {x0 x1 x2 x3 : Nat}  (h0 : (((x0 + x1) + (x3 - x1)) - 1) = (x2 - 1)) (h1 : ¬ ((x3 - x1) = 0)) : (x0 + x1) ≤ (x2 - 1) := Or.elim (ac9 h1) (fun u2 => (l'5 x0 x1 (x3 - x1) (((x0 + x1) + (x3 - x1)) - 1) (x2 - 1) (.k 1 (.add (.add c8 d5) e9) I9 (.k 1 o7 A9 (.k 1 D9 w9 .o))) (.add c8 d5) A9 tt (A7 ((x0 + x1) + (x3 - x1)) 1) (Nat.le_of_eq h0) u2)) (fun u3 => (l'5 x0 x1 (x3 - x1) (((x0 + x1) + (x3 - x1)) - 1) (x2 - 1) (.k 1 (.add (.add c8 d5) e9) I9 (.k 1 o7 A9 (.k 1 (.add w9 k9) e9 .o))) (.add c8 d5) A9 tt (A7 ((x0 + x1) + (x3 - x1)) 1) (Nat.le_of_eq h0) u3))
theorem a85 {x0 x1 x2 x3 : Nat}  (h0 : ((x0 + x1) + (((x2 - (x0 + x1)) - 1) + x3)) < x2) : ((x0 + x1) + (((x2 - (x0 + x1)) - 1) + x3)) = (x2 - 1) := Nat.le_antisymm (l'6 x0 x1 ((x2 - (x0 + x1)) - 1) x3 x2 (x2 - 1) (.k 1 (.add (.add (.add c8 d5) (.add e9 o7)) k9) A9 (.k 1 A9 s'5 .o)) (.add (.add c8 d5) (.add e9 o7)) v'5 tt h0 (A7 x2 1)) (l'7 (x2 - (x0 + x1)) ((x2 - (x0 + x1)) - 1) x2 x0 x1 (x2 - 1) x3 (.k 1 c8 y0 (.k 1 e9 (.add c8 (.add o7 A9)) (.k 1 s'5 e9 .o))) v'5 (.add (.add o7 A9) (.add d5 v'6)) tt (A7 (x2 - (x0 + x1)) 1) (A7 x2 (x0 + x1)) (F1 (l'5 x0 x1 ((x2 - (x0 + x1)) - 1) x3 x2 (.k 1 (.add (.add (.add c8 d5) (.add e9 o7)) k9) A9 .o) k9 A9 tt h0)))
theorem a86 {x0 x1 x2 x3 : Nat}  (h0 : x0 = (x1 + x3)) (h1 : x2 ≤ x3) (h2 : ¬ ((x3 - x2) = 0)) : 1 ≤ (x0 - (x1 + x2)) := Or.elim (ac9 h2) (fun u2 => (n8 (x3 - x2) (x0 - (x1 + x2)) (.k 1 i9 w9 .o) k9 d5 tt u2)) (fun u3 => (l'6 x1 x3 x0 (x0 - (x1 + x2)) x2 (x3 - x2) (.k 1 (.add c8 d5) e9 (.k 1 e9 (.add o7 (.add c8 A9)) (.k 1 (.add v'5 A9) d5 (.k 1 (.add w9 k9) v'5 .o)))) k9 o7 tt (Nat.le_of_eq (Eq.symm h0)) (A7 x0 (x1 + x2)) (F1 (n8 x2 x3 (.k 1 c8 d5 .o) c8 d5 tt h1)) u3))
theorem a87 {x0 x1 : Nat}  (h0 : ¬ (x1 = 0)) : 1 ≤ ((x0 + x1) - x0) := Or.elim (ac9 h0) (fun u2 => (n8 x1 ((x0 + x1) - x0) (.k 1 i9 w9 .o) k9 d5 tt u2)) (fun u3 => (z3 x0 x1 ((x0 + x1) - x0) (.k 1 (.add c8 d5) (.add e9 c8) (.k 1 (.add w9 k9) d5 .o)) k9 e9 tt (A7 (x0 + x1) x0) u3))
theorem a98 {x0 : Nat}  (h0 : x0 ≤ 100) : x0 ≤ 10000 := o5 x0 (.k 1 c8 (.num 100) .o) c8 (.num 10000) tt h0
theorem aV4 {x0 : Nat}  (h0 : 140 ≤ x0) : 0 < x0 := o5 x0 (.k 1 (.num 140) c8 .o) (.add w9 k9) c8 tt h0
theorem aV3 {x0 x1 : Nat}  (h0 : x0 = x1) (h1 : x1 ≤ 100) : x0 ≤ 10000 := n8 x0 x1 (.k 1 c8 d5 (.k 1 d5 (.num 100) .o)) c8 (.num 10000) tt (Nat.le_of_eq h0) h1
theorem bt9   : 3 ≤ 16777216 := l'0  .o R4 (.num 16777216) tt
theorem W3   : 2 ≤ 16777216 := l'0  .o I7 (.num 16777216) tt
theorem bE3 {x0 : Nat}  (h0 : x0 = 40) : x0 ≤ 16777216 := o5 x0 (.k 1 c8 (.num 40) .o) c8 (.num 16777216) tt (Nat.le_of_eq h0)
theorem bZ6 {x0 : Nat}   : (min 39 x0) ≤ 1000 := o5 (min 39 x0) (.k 1 c8 (.num 39) .o) c8 (.num 1000) tt (Nat.min_le_left 39 x0)
theorem M4 {x0 : Nat}  (h0 : x0 ≤ 40) : x0 ≤ 1000 := o5 x0 (.k 1 c8 (.num 40) .o) c8 (.num 1000) tt h0
theorem bi7 {x0 : Nat}  (h0 : 60 ≤ x0) : 0 < x0 := o5 x0 (.k 1 (.num 60) c8 .o) (.add w9 k9) c8 tt h0
theorem bi6 {x0 : Nat}  (h0 : 60 ≤ x0) : 52 ≤ (x0 - 1) := n8 x0 (x0 - 1) (.k 1 (.num 60) c8 (.k 1 c8 y0 .o)) (.num 52) d5 tt h0 (A7 x0 1)
theorem bE2 {x0 : Nat}  (h0 : 3 ≤ x0) : 0 < x0 := o5 x0 (.k 1 R4 c8 .o) (.add w9 k9) c8 tt h0
theorem bt8 {x0 : Nat}  (h0 : 3 ≤ x0) : 2 ≤ (x0 - 1) := n8 x0 (x0 - 1) (.k 1 R4 c8 (.k 1 c8 y0 .o)) I7 d5 tt h0 (A7 x0 1)
theorem aL1 {x0 : Nat}  (h0 : 70 ≤ x0) : 0 < x0 := o5 x0 (.k 1 (.num 70) c8 .o) (.add w9 k9) c8 tt h0
theorem bK4 {x0 : Nat}  (h0 : 70 ≤ x0) : 3 ≤ (x0 - 1) := n8 x0 (x0 - 1) (.k 1 (.num 70) c8 (.k 1 c8 y0 .o)) R4 d5 tt h0 (A7 x0 1)
theorem aE2 {x0 : Nat}  (h0 : 2 ≤ x0) : 0 < x0 := o5 x0 (.k 1 I7 c8 .o) (.add w9 k9) c8 tt h0
theorem bE1 {x0 : Nat}  (h0 : x0 ≤ 150) : x0 < (2 ^ 62) := o5 x0 (.k 1 c8 (.num 150) .o) i9 (.num 4611686018427387904) tt h0
theorem bt7 {x0 : Nat}  (h0 : 70 ≤ x0) : 60 ≤ (x0 - 1) := n8 x0 (x0 - 1) (.k 1 (.num 70) c8 (.k 1 c8 y0 .o)) (.num 60) d5 tt h0 (A7 x0 1)
theorem aE1 {x0 : Nat}  (h0 : x0 ≤ 1000) : x0 ≤ 16777216 := o5 x0 (.k 1 c8 (.num 1000) .o) c8 (.num 16777216) tt h0
theorem bZ4 {x0 : Int}  : (Int.toNat (((x0 / (4 : Int)) % (7 : Int)) + ((34 : Int) * (1 : Int)))) ≤ 40 := by first | lia | omega
theorem bZ3 {x0 : Int}  : (Int.toNat (((x0 / (4 : Int)) % (7 : Int)) + ((34 : Int) * (0 : Int)))) ≤ 40 := by first | lia | omega
theorem bZ2 {x0 : Int} (h0 : (0 : Int) ≤ ((x0 / (4 : Int)) % (7 : Int))) : (((x0 / (4 : Int)) % (7 : Int)) + ((34 : Int) * (1 : Int))) = (((Int.toNat (((x0 / (4 : Int)) % (7 : Int)) + ((34 : Int) * (1 : Int)))) : Nat) : Int) := by first | lia | omega
theorem bZ1 {x0 : Int} (h0 : (0 : Int) ≤ ((x0 / (4 : Int)) % (7 : Int))) : (((x0 / (4 : Int)) % (7 : Int)) + ((34 : Int) * (0 : Int))) = (((Int.toNat (((x0 / (4 : Int)) % (7 : Int)) + ((34 : Int) * (0 : Int)))) : Nat) : Int) := by first | lia | omega
theorem bZ0 {x0 : Int} : (Int.toNat ((x0 / (23 : Int)) % (5 : Int))) < 5 := (Int.toNat_lt (Int.emod_nonneg _ (by decide))).mpr (Int.emod_lt_of_pos _ (by decide))
theorem bY9 {x0 : Int} : ((x0 / (23 : Int)) % (5 : Int)) < ((2 : Int) ^ 62) := Int.lt_trans (Int.emod_lt_of_pos _ (by decide)) (by decide : (5 : Int) < 2 ^ 62)
theorem bE0 {x0 : Nat} : (-((2 : Int) ^ 62)) ≤ ((x0 : Nat) : Int) := Int.le_trans (by decide) (Int.natCast_nonneg x0)
theorem bY8 {x1 : Nat} {x0 : Int} (h0 : x0 < ((x1 : Nat) : Int)) (h1 : x1 ≤ 63) : x0 < ((2 : Int) ^ 62) := Int.lt_trans h0 (Int.lt_of_le_of_lt (Int.ofNat_le.mpr h1) (by decide))
theorem bK3 {x1 : Nat} {x0 : Int} (h0 : (0 : Int) ≤ x0) (h1 : x0 < ((x1 : Nat) : Int)) : (Int.toNat x0) < x1 := (Int.toNat_lt h0).mpr h1
theorem bY7 {x0 : Nat} {x1 : Int} (h0 : (0 : Int) ≤ x1) (h1 : ¬ (x1 < ((x0 : Nat) : Int))) : x0 ≤ (Int.toNat x1) := (Int.le_toNat h0).mpr (Int.not_lt.mp h1)
theorem bD9 {x0 : Nat}   : (0 : Int) ≤ ((x0 : Nat) : Int) := Int.ofNat_le.mpr (o5 x0 .o w9 c8 tt )
theorem bK2 {x0 : Nat} {x1 : Int} (h0 : ¬ ((Int.toNat x1) ≤ x0)) : x0 ≤ (Int.toNat x1) := by first | lia | omega
theorem bY6 {x0 : Nat} (h0 : ¬ ((((x0 : Nat) : Int) + (1 : Int)) < (0 : Int))) : (Int.toNat (((x0 : Nat) : Int) + (1 : Int))) = (x0 + 1) := rfl
theorem bY5 {x0 x1 : Nat}  (h0 : x0 < x1) : (min (x0 + 1) x1) = (x0 + 1) := Nat.le_antisymm (n8 (min (x0 + 1) x1) x0 (.k 1 c8 y0 .o) c8 y0 tt (Nat.min_le_left (x0 + 1) x1)) (n8 x0 (min (x0 + 1) x1) (.k 1 i9 d5 .o) i9 d5 tt (Z4 (n8 x0 x1 (.k 1 i9 d5 .o) i9 d5 tt h0)))
theorem bY4 {x0 x1 : Nat}  (h0 : x0 < x1) : (min x0 x1) = x0 := Nat.le_antisymm (n8 (min x0 x1) x0 (.k 1 c8 d5 .o) c8 d5 tt (Nat.min_le_left x0 x1)) (n8 x0 (min x0 x1) (.k 1 c8 d5 .o) c8 d5 tt (Z4 (n8 x0 x1 (.k 1 i9 d5 .o) c8 d5 tt h0)))
theorem bK1 {x0 : Nat}   : ((x0 + 1) - x0) = 1 := Nat.le_antisymm (n8 ((x0 + 1) - x0) x0 (.k 1 (.add c8 d5) y0 .o) c8 k9 tt (F1 (o5 x0 .o c8 i9 tt ))) (n8 x0 ((x0 + 1) - x0) (.k 1 i9 (.add d5 c8) .o) k9 d5 tt (A7 (x0 + 1) x0))
theorem bY3 {x0 x1 : Nat}  (h0 : ¬ (x0 < x1)) : (min x0 x1) = x1 := Nat.le_antisymm (n8 (min x0 x1) x1 (.k 1 c8 d5 .o) c8 d5 tt (Nat.min_le_right x0 x1)) (n8 x1 (min x0 x1) (.k 1 c8 d5 .o) c8 d5 tt (aH5 (n8 x1 x0 (.k 1 c8 d5 .o) c8 d5 tt (Nat.le_of_not_lt h0))))
theorem bY2 {x0 x1 : Nat}   : (min (min (x0 + 1) x1) x1) ≤ x1 := n8 (min (min (x0 + 1) x1) x1) x1 (.k 1 c8 d5 .o) c8 d5 tt (Nat.min_le_right (min (x0 + 1) x1) x1)
theorem aw5 {x0 : Nat}  (h0 : x0 ≤ 40) : x0 < (2 ^ 62) := o5 x0 (.k 1 c8 (.num 40) .o) i9 (.num 4611686018427387904) tt h0
theorem aV2 {x0 : Nat}  (h0 : x0 ≤ 40) : x0 ≤ 16777216 := o5 x0 (.k 1 c8 (.num 40) .o) c8 (.num 16777216) tt h0
theorem bY1 {x0 x1 x2 : Nat}  (h0 : 1 ≤ x2) (h1 : x0 < (x2 + 1)) : (x0 - (x1 + 1)) < x2 := Or.elim (Nat.le_total x0 (x1 + 1)) (fun u2 => (n8 x2 (x0 - (x1 + 1)) (.k 1 k9 c8 (.k 1 d5 w9 .o)) y0 c8 tt h0 (sbZ u2))) (fun u3 => (I0 x0 x2 (x0 - (x1 + 1)) x1 (.k 1 i9 y0 (.k 1 (.add e9 I9) c8 .o)) D9 d5 tt h1 (F1 u3)))
theorem bY0 {x0 x1 : Nat}  (h0 : x0 ≤ x1) (h1 : x1 ≤ 1000) : x0 ≤ 1000 := n8 x0 x1 (.k 1 c8 d5 (.k 1 d5 (.num 1000) .o)) c8 (.num 1000) tt h0 h1
theorem bK0 {x0 : Nat}  (h0 : 4 ≤ x0) : 3 ≤ (x0 - 1) := n8 x0 (x0 - 1) (.k 1 c'4 c8 (.k 1 c8 y0 .o)) R4 d5 tt h0 (A7 x0 1)
theorem aE0 {x0 : Nat}  (h0 : x0 ≤ 1000) : x0 < (2 ^ 62) := o5 x0 (.k 1 c8 (.num 1000) .o) i9 (.num 4611686018427387904) tt h0
theorem bX9 {x0 x1 x2 x3 x4 : Nat}  (h0 : (((x1 : Nat) : Int) < ((x0 : Nat) : Int)) ∧ ((((x1 : Nat) : Int) < ((x2 : Nat) : Int)) ∧ (x3 = x4))) : (x0 - (x1 + 1)) < (x0 - x1) := I0 x0 (x0 - x1) x1 (x0 - (x1 + 1)) (.k 1 c8 (.add d5 e9) (.k 1 (.add o7 D9) c8 .o)) I9 d5 tt (A7 x0 x1) (F1 (n8 x1 x0 (.k 1 i9 d5 .o) i9 d5 tt (Int.ofNat_lt.mp (And.left h0))))
theorem bX8 {x0 x1 : Nat}  (h0 : (x0 + 3) ≤ x1) : (x0 + 2) ≤ (x1 - 1) := z3 x0 x1 (x1 - 1) (.k 1 (.add c8 R4) d5 (.k 1 d5 D9 .o)) (.add c8 I7) e9 tt h0 (A7 x1 1)
theorem bX7 {x0 x1 : Nat}  (h0 : (x1 + 3) ≤ x0) : 0 < ((x0 - 1) - 1) := I0 x1 x0 (x0 - 1) ((x0 - 1) - 1) (.k 1 (.add c8 R4) d5 (.k 1 e9 I9 (.k 1 d5 D9 .o))) (.add w9 k9) o7 tt h0 (A7 (x0 - 1) 1) (A7 x0 1)
theorem bX6 {x0 x1 : Nat}  (h0 : (x1 + 3) ≤ x0) : 0 < (x0 - 1) := z3 x1 x0 (x0 - 1) (.k 1 (.add c8 R4) d5 (.k 1 d5 D9 .o)) (.add w9 k9) e9 tt h0 (A7 x0 1)
theorem bt6 {x0 : Nat}  (h0 : x0 ≤ 1000) : x0 ≤ 10000 := o5 x0 (.k 1 c8 (.num 1000) .o) c8 (.num 10000) tt h0
theorem bX5 {x0 : Int} (h0 : x0 ≤ (3 : Int)) : (Int.toNat x0) ≤ 3 := Int.toNat_le.mpr h0
theorem bX4 {x0 x1 x2 : Nat}  (h0 : (x2 + x0) < x1) : x0 ≤ ((x1 - 1) - x2) := l'5 x2 x0 x1 (x1 - 1) ((x1 - 1) - x2) (.k 1 (.add (.add c8 d5) k9) e9 (.k 1 o7 (.add A9 c8) (.k 1 e9 I9 .o))) d5 A9 tt h0 (A7 (x1 - 1) x2) (A7 x1 1)
theorem bX3 {x0 x1 x2 : Nat}  (h0 : (x0 + (max 0 x2)) ≤ (x2 + x1)) : x0 ≤ x1 := I0 x2 (max 0 x2) x0 x1 (.k 1 c8 d5 (.k 1 (.add e9 d5) (.add c8 o7) .o)) e9 o7 tt (Nat.le_max_right 0 x2) h0
theorem bX1 {x0 x1 x2 x3 : Nat}  (h0 : (x1 + x3) < x0) (h1 : x0 ≤ (x1 + x2)) : ((x0 - 1) - x1) < x2 := l'5 x0 x1 x2 ((x0 - 1) - x1) (x0 - 1) (.k 1 c8 (.add d5 e9) (.k 1 (.add o7 d5) A9 (.k 1 s'4 c8 .o))) I9 e9 tt h1 (F1 (I0 x1 x3 x0 (x0 - 1) (.k 1 (.add (.add c8 d5) k9) e9 (.k 1 e9 I9 .o)) c8 o7 tt h0 (A7 x0 1))) (F1 (z3 x1 x3 x0 (.k 1 (.add (.add c8 d5) k9) e9 .o) k9 e9 tt h0))
theorem bX0 {x0 x1 : Nat}  (h0 : ¬ (x0 ≥ x1)) : ((x0 + x1) / 2) < x1 := Nat.le_of_not_lt fun u1 => (f'3 x0 x1 ((x0 + x1) / 2) (.k 1 i9 d5 (.k 1 (.mulL 2 e9) (.add c8 d5) (.k 2 y0 D9 .o))) tt (Nat.lt_of_not_le h0) (bw5 (x0 + x1)) u1)
theorem bJ9 {x0 x1 x2 : Nat}  (h0 : (x0 + x2) < x1) : x0 ≤ (x1 - 1) := I0 x0 x2 x1 (x1 - 1) (.k 1 (.add (.add c8 d5) k9) e9 (.k 1 e9 I9 .o)) c8 o7 tt h0 (A7 x1 1)
theorem bW9 {x0 x1 x2 : Nat}  (h0 : (x1 + (max 0 x2)) ≤ (x2 + x0)) (h1 : x0 ≤ x1) : x0 = x1 := Nat.le_antisymm (n8 x0 x1 (.k 1 c8 d5 .o) c8 d5 tt h1) (I0 x2 (max 0 x2) x1 x0 (.k 1 c8 d5 (.k 1 (.add e9 d5) (.add c8 o7) .o)) e9 o7 tt (Nat.le_max_right 0 x2) h0)
theorem bW8 {x0 x1 : Nat}  (h0 : ¬ (x0 ≥ x1)) : x0 ≤ ((x0 + x1) / 2) := Nat.le_of_not_lt fun u1 => (f'3 x0 x1 ((x0 + x1) / 2) (.k 1 i9 d5 (.k 1 (.add c8 d5) (.add (.mulL 2 e9) k9) (.k 2 D9 c8 .o))) tt (Nat.lt_of_not_le h0) (bw4 (x0 + x1)) u1)
theorem bW7 {x0 x1 : Nat}  (h0 : ¬ (x0 ≥ x1)) : (x0 + ((x1 - x0) / 2)) < x1 := Nat.le_of_not_lt fun u1 => (f'4 x0 x1 ((x1 - x0) / 2) (x1 - x0) (.k 1 i9 d5 (.k 1 (.mulL 2 e9) o7 (.k 1 (.add o7 c8) d5 (.k 2 y0 (.add (.add c8 e9) k9) .o)))) tt (Nat.lt_of_not_le h0) (bw5 (x1 - x0)) (F1 (n8 x0 x1 (.k 1 i9 d5 .o) c8 d5 tt (Nat.lt_of_not_le h0))) u1)
theorem bW6 {x0 x1 x2 x3 : Nat}  (h0 : (x0 + x1) ≤ (x2 + x3)) (h1 : x1 < x2) : (x0 + (x1 + 1)) ≤ (x2 + (((x3 + x0) / 2) + 1)) := Nat.le_of_not_lt fun u1 => (f'5 x0 x1 x2 x3 ((x3 + x0) / 2) (.k 1 (.add c8 d5) (.add e9 o7) (.k 1 y0 e9 (.k 1 (.add o7 c8) (.add (.mulL 2 A9) k9) (.k 2 (.add (.add e9 s'4) k9) (.add c8 y0) .o)))) tt h0 h1 (bw4 (x3 + x0)) u1)
theorem bW5 {x0 x1 x2 x3 x4 : Nat}  (h0 : (x0 < x1) ∨ ((x1 + x4) ≤ x0)) (h1 : x2 < x4) : ¬ (x0 = ((x1 + x2) - ((x1 + x2) - (x1 + x3)))) := fun u1 => (Or.elim h0 (fun u2 => (Or.elim (Nat.le_total (x1 + x2) (x1 + x3)) (fun u4 => (f'5 x1 x2 ((x1 + x2) - ((x1 + x2) - (x1 + x3))) ((x1 + x2) - (x1 + x3)) x0 (.k 1 (.add c8 d5) (.add e9 o7) (.k 1 e9 A9 (.k 1 s'4 c8 (.k 1 o7 w9 .o)))) tt (A7 (x1 + x2) ((x1 + x2) - (x1 + x3))) (Nat.le_of_eq (Eq.symm u1)) u2 (sbZ u4))) (fun u5 => (f'6 x1 x2 ((x1 + x2) - ((x1 + x2) - (x1 + x3))) ((x1 + x2) - (x1 + x3)) x0 x3 (.k 1 (.add c8 d5) (.add e9 o7) (.k 1 e9 A9 (.k 1 s'4 c8 (.k 1 (.add o7 (.add c8 v'5)) (.add c8 d5) .o)))) tt (A7 (x1 + x2) ((x1 + x2) - (x1 + x3))) (Nat.le_of_eq (Eq.symm u1)) u2 (F1 u5))))) (fun u3 => (f'5 x2 x4 ((x1 + x2) - ((x1 + x2) - (x1 + x3))) x1 x0 (.k 1 i9 d5 (.k 1 e9 (.add o7 c8) (.k 1 A9 e9 (.k 1 (.add o7 d5) A9 .o)))) tt h1 (Nat.sub_le (x1 + x2) ((x1 + x2) - (x1 + x3))) (Nat.le_of_eq u1) u3)))
theorem bW4 {x0 x1 x2 : Nat}  (h0 : ((max 0 x0) + 1) ≤ x2) : x0 ≤ (x1 + x2) := I0 x0 (max 0 x0) x2 x1 (.k 1 c8 d5 (.k 1 y0 e9 .o)) c8 (.add o7 e9) tt (Nat.le_max_right 0 x0) h0
theorem bi5 {x0 x1 x2 : Nat}  (h0 : x0 < (x1 + (x2 + 1))) : x0 ≤ (x1 + x2) := z3 x0 x1 x2 (.k 1 i9 (.add d5 D9) .o) c8 (.add d5 e9) tt h0
theorem bW3 {x0 x1 x2 : Nat}  (h0 : x2 ≥ (x0 - x1)) : x0 ≤ (x1 + x2) := I0 x0 (x0 - x1) x1 x2 (.k 1 c8 (.add d5 e9) (.k 1 d5 o7 .o)) c8 (.add e9 o7) tt (A7 x0 x1) h0
theorem bW2 {x0 x1 x2 x3 x4 : Nat}  (h0 : (x3 < x0) ∨ ((x0 + x4) ≤ x3)) (h1 : x1 < x4) : ¬ ((((x0 + x1) - ((x0 + x1) - (x0 + x2))) < x3) ∧ (x3 ≤ (x0 + x1))) := fun u1 => (Or.elim h0 (fun u2 => (Or.elim (Nat.le_total (x0 + x1) (x0 + x2)) (fun u4 => (f'5 x0 x1 ((x0 + x1) - ((x0 + x1) - (x0 + x2))) ((x0 + x1) - (x0 + x2)) x3 (.k 1 (.add c8 d5) (.add e9 o7) (.k 1 D9 A9 (.k 1 A9 (.add c8 d5) (.k 1 o7 w9 .o)))) tt (A7 (x0 + x1) ((x0 + x1) - (x0 + x2))) (And.left u1) (And.right u1) (sbZ u4))) (fun u5 => (f'6 x0 x1 ((x0 + x1) - ((x0 + x1) - (x0 + x2))) ((x0 + x1) - (x0 + x2)) x3 x2 (.k 1 (.add c8 d5) (.add e9 o7) (.k 1 D9 A9 (.k 1 s'4 c8 (.k 1 (.add o7 (.add c8 v'5)) (.add c8 d5) .o)))) tt (A7 (x0 + x1) ((x0 + x1) - (x0 + x2))) (And.left u1) u2 (F1 u5))))) (fun u3 => (f'4 x1 x4 x3 x0 (.k 1 i9 d5 (.k 1 e9 (.add o7 c8) (.k 1 (.add o7 d5) e9 .o))) tt h1 (And.right u1) u3)))
theorem bW1 {x0 x1 x2 x3 : Nat}  (h0 : (x2 + x3) < x0) (h1 : x0 ≤ x1) : (x0 - 1) ≤ (x1 - 1) := I0 x0 x1 (x1 - 1) (x0 - 1) (.k 1 c8 d5 (.k 1 d5 D9 (.k 1 I9 c8 .o))) o7 e9 tt h1 (A7 x1 1) (F1 (z3 x2 x3 x0 (.k 1 (.add (.add c8 d5) k9) e9 .o) k9 e9 tt h0))
theorem bW0 {x0 x1 x2 x3 : Nat}  (h0 : (x0 + x1) < x3) (h1 : x1 < x2) : ((x0 + x1) + 1) ≤ (x0 + (min x2 (x3 - x0))) := Or.elim (Nat.le_total x2 (x3 - x0)) (fun u2 => (I0 x1 x2 (min x2 (x3 - x0)) x0 (.k 1 i9 d5 (.k 1 d5 e9 .o)) (.add (.add o7 c8) k9) (.add o7 e9) tt h1 (Z4 u2))) (fun u3 => (l'5 x0 x1 x3 (x3 - x0) (min x2 (x3 - x0)) (.k 1 (.add (.add c8 d5) k9) e9 (.k 1 e9 (.add o7 c8) (.k 1 o7 A9 .o))) (.add (.add c8 d5) k9) (.add c8 A9) tt h0 (A7 x3 x0) (aH5 u3)))
theorem bt5 {x0 x1 x2 x3 : Nat}  (h0 : x0 = x3) (h1 : x1 ≤ 12) (h2 : x2 < x1) (h3 : x3 ≤ x2) : x0 ≤ 10000 := I0 x0 x3 x1 x2 (.k 1 c8 d5 (.k 1 e9 (.num 12) (.k 1 I9 e9 (.k 1 d5 o7 .o)))) c8 (.num 10000) tt (Nat.le_of_eq h0) h1 h2 h3
theorem bV9 {x0 x1 x2 : Nat}  (h0 : x0 < x2) : (x0 + (min x1 (x2 - x0))) ≤ x2 := I0 (min x1 (x2 - x0)) (x2 - x0) x0 x2 (.k 1 c8 d5 (.k 1 (.add d5 e9) o7 .o)) (.add e9 c8) o7 tt (Nat.min_le_right x1 (x2 - x0)) (F1 (n8 x0 x2 (.k 1 i9 d5 .o) c8 d5 tt h0))
theorem bV8 {x0 x1 x2 x3 : Nat}  (h0 : (x0 + (min x3 (x1 - x0))) ≤ x2) (h1 : x0 < x1) (h2 : x1 ≤ (x0 + x3)) (h3 : x2 < x1) : False := f'5 x1 (x1 - x0) x0 (min x3 (x1 - x0)) x2 (.k 1 c8 (.add d5 e9) (.k 1 (.add e9 o7) A9 (.k 1 s'4 c8 (.k 1 d5 o7 .o)))) tt (A7 x1 x0) h0 h3 (aH5 (I0 x1 x0 x3 (x1 - x0) (.k 1 c8 (.add d5 e9) (.k 1 (.add o7 d5) c8 .o)) o7 e9 tt h2 (F1 (n8 x0 x1 (.k 1 i9 d5 .o) c8 d5 tt h1))))
theorem bV7 {x0 x1 x2 x3 : Nat}  (h0 : (x0 + (min x1 (x3 - x0))) ≤ x2) (h1 : x2 < x3) : (x0 + x1) ≤ x2 := Or.elim (Nat.le_total x1 (x3 - x0)) (fun u2 => (I0 x0 (min x1 (x3 - x0)) x2 x1 (.k 1 (.add c8 d5) e9 (.k 1 o7 d5 .o)) (.add c8 o7) e9 tt h0 (Z4 u2))) (fun u3 => (False.elim (f'5 x3 (x3 - x0) x0 (min x1 (x3 - x0)) x2 (.k 1 c8 (.add d5 e9) (.k 1 (.add e9 o7) A9 (.k 1 s'4 c8 (.k 1 d5 o7 .o)))) tt (A7 x3 x0) h0 h1 (aH5 u3))))
theorem bV6 {x0 x1 x2 : Nat}  (h0 : ((max 0 x2) + 1) ≤ x1) (h1 : x0 < x2) : (x0 + 1) ≤ x1 := I0 x2 (max 0 x2) x1 x0 (.k 1 c8 d5 (.k 1 y0 e9 (.k 1 I9 c8 .o))) I9 e9 tt (Nat.le_max_right 0 x2) h0 h1
theorem bV5 {x0 x1 x2 : Nat}  (h0 : x2 < x1) : ((x0 + 1) - (min x1 (x0 + 1))) ≤ (x0 - x2) := Or.elim (Nat.le_total x1 (x0 + 1)) (fun u2 => (l'6 x2 x1 x0 (x0 - x2) ((x0 + 1) - (min x1 (x0 + 1))) (min x1 (x0 + 1)) (.k 1 i9 d5 (.k 1 e9 (.add o7 c8) (.k 1 (.add A9 v'5) D9 (.k 1 d5 v'5 .o)))) A9 o7 tt h0 (A7 x0 x2) (F1 (n8 (min x1 (x0 + 1)) x0 (.k 1 c8 y0 .o) c8 y0 tt (Nat.min_le_right x1 (x0 + 1)))) (Z4 u2))) (fun u3 => (I0 ((x0 + 1) - (min x1 (x0 + 1))) (min x1 (x0 + 1)) x0 (x0 - x2) (.k 1 (.add c8 d5) D9 (.k 1 D9 d5 .o)) c8 o7 tt (F1 (n8 (min x1 (x0 + 1)) x0 (.k 1 c8 y0 .o) c8 y0 tt (Nat.min_le_right x1 (x0 + 1)))) (aH5 u3)))
theorem bV4 {x0 x1 x2 : Nat}  (h0 : x0 < x2) : (x0 - x1) ≤ x2 := z3 x0 x2 (x0 - x1) (.k 1 i9 d5 (.k 1 e9 c8 .o)) e9 d5 tt h0 (Nat.sub_le x0 x1)
theorem bV3 {x0 x1 x2 : Nat}  (h0 : (x0 + 1) ≤ x1) (h1 : x2 < ((x0 + 1) - (min x1 (x0 + 1)))) : False := f'4 x2 ((x0 + 1) - (min x1 (x0 + 1))) (min x1 (x0 + 1)) x0 (.k 1 i9 d5 (.k 1 (.add d5 e9) I9 (.k 1 I9 e9 .o))) tt h1 (F1 (n8 (min x1 (x0 + 1)) x0 (.k 1 c8 y0 .o) c8 y0 tt (Nat.min_le_right x1 (x0 + 1)))) (aH5 (n8 x0 x1 (.k 1 i9 d5 .o) i9 d5 tt h0))
theorem bV2 {x0 x1 x2 : Nat}  (h0 : x0 < ((x1 + 1) - (min x2 (x1 + 1)))) : x0 ≤ (x1 - x2) := Or.elim (Nat.le_total x2 (x1 + 1)) (fun u2 => (l'6 x0 ((x1 + 1) - (min x2 (x1 + 1))) x1 (x1 - x2) x2 (min x2 (x1 + 1)) (.k 1 i9 d5 (.k 1 e9 (.add o7 A9) (.k 1 (.add d5 v'5) D9 (.k 1 A9 v'5 .o)))) c8 o7 tt h0 (A7 x1 x2) (F1 (n8 (min x2 (x1 + 1)) x1 (.k 1 c8 y0 .o) c8 y0 tt (Nat.min_le_right x2 (x1 + 1)))) (Z4 u2))) (fun u3 => (l'5 x0 ((x1 + 1) - (min x2 (x1 + 1))) (min x2 (x1 + 1)) x1 (x1 - x2) (.k 1 i9 d5 (.k 1 (.add d5 e9) I9 (.k 1 I9 e9 .o))) c8 A9 tt h0 (F1 (n8 (min x2 (x1 + 1)) x1 (.k 1 c8 y0 .o) c8 y0 tt (Nat.min_le_right x2 (x1 + 1)))) (aH5 u3)))
theorem bV1 {x0 x1 x2 : Nat}  (h0 : x0 < x2) : (x0 - x1) < x2 := z3 x0 x2 (x0 - x1) (.k 1 i9 d5 (.k 1 e9 c8 .o)) D9 d5 tt h0 (Nat.sub_le x0 x1)
theorem aw4 {x0 : Nat}  (h0 : 130 ≤ x0) : 0 < x0 := o5 x0 (.k 1 (.num 130) c8 .o) (.add w9 k9) c8 tt h0
theorem bt4 {x0 : Nat}  (h0 : 130 ≤ x0) : 70 ≤ (x0 - 1) := n8 x0 (x0 - 1) (.k 1 (.num 130) c8 (.k 1 c8 y0 .o)) (.num 70) d5 tt h0 (A7 x0 1)
theorem bV0 {x0 x1 : Nat}  (h0 : x0 < (Int.toNat (((x1 : Nat) : Int) - (0 : Int)))) (h1 : x1 ≤ 3) : x0 < 3 := by first | lia | omega
theorem bt3 {x0 : Nat}  (h0 : x0 < 3) : (x0 = 0) ∨ ((x0 = 1) ∨ (x0 = 2)) := (Decidable.em (x0 = 0)).elim Or.inl fun u2 => Or.inr (Or.elim (ac9 u2) (fun u3 => (Or.inl (Nat.le_antisymm (o5 x0 (.k 1 i9 w9 .o) c8 k9 tt u3) (o5 x0 (.k 1 i9 w9 .o) k9 c8 tt u3)))) (fun u4 => ((Decidable.em (x0 = 1)).elim Or.inl fun u5 => Or.inr (Or.elim (ac9 u5) (fun u6 => (Nat.le_antisymm (o5 x0 (.k 1 i9 k9 .o) c8 I7 tt u6) (o5 x0 (.k 2 (.add w9 k9) c8 (.k 1 i9 k9 .o)) I7 c8 tt u4 u6))) (fun u7 => (Nat.le_antisymm (o5 x0 (.k 1 i9 R4 .o) c8 I7 tt h0) (o5 x0 (.k 1 (.add k9 k9) c8 .o) I7 c8 tt u7)))))))
theorem bU9 {x0 x1 : Nat}  (h0 : x0 ≤ (15 + (Int.toNat (((x1 : Nat) : Int) - (0 : Int))))) (h1 : x1 ≤ 3) : x0 ≤ 20 := by first | lia | omega
theorem bU8 {x0 x1 x2 x3 x4 : Nat}  (h0 : x0 ≤ 1000) (h1 : x1 < x4) (h2 : x3 ≤ 150) (h3 : x4 ≤ x3) : (x0 + (min x1 x2)) ≤ 10000 := l'5 x0 x1 x4 x3 (min x1 x2) (.k 1 c8 (.num 1000) (.k 1 y0 e9 (.k 1 o7 (.num 150) (.k 1 e9 o7 (.k 1 A9 d5 .o))))) (.add c8 A9) (.num 10000) tt h0 h1 h2 h3 (Nat.min_le_left x1 x2)
theorem bU7 {x0 x1 x2 : Nat}  (h0 : x2 ≤ x1) (h1 : ¬ ((40 : Int) < ((((x1 : Nat) : Int) - ((x2 : Nat) : Int)) + ((x0 : Nat) : Int)))) : (x0 + (x1 - x2)) ≤ 40 := by first | lia | omega
theorem bU6 {x0 x1 : Nat}  (h0 : x0 < x1) (h1 : x1 ≤ 100) : (x0 + 1) ≤ 100 := n8 x0 x1 (.k 1 i9 d5 (.k 1 d5 (.num 100) .o)) i9 (.num 100) tt h0 h1
theorem bU5 {x0 x1 x2 : Nat}  (h0 : x0 < (min x2 x1)) : x0 < x1 := z3 (min x2 x1) x1 x0 (.k 1 c8 d5 (.k 1 D9 c8 .o)) D9 d5 tt (Nat.min_le_right x2 x1) h0
theorem bU4 {x0 x1 x2 : Nat}  (h0 : x0 < (min x1 x2)) : x0 < x1 := z3 (min x1 x2) x1 x0 (.k 1 c8 d5 (.k 1 D9 c8 .o)) D9 d5 tt (Nat.min_le_left x1 x2) h0
theorem bi4 {x0 x1 : Nat}  (h0 : x0 = x1) (h1 : x1 ≤ 150) : x0 ≤ 10000 := n8 x0 x1 (.k 1 c8 d5 (.k 1 d5 (.num 150) .o)) c8 (.num 10000) tt (Nat.le_of_eq h0) h1
theorem aL0 {x0 : Nat}  (h0 : x0 ≤ 150) : x0 ≤ 16777216 := o5 x0 (.k 1 c8 (.num 150) .o) c8 (.num 16777216) tt h0
theorem bU3 {x0 x1 x2 : Nat}  (h0 : (40 : Int) < ((((x1 : Nat) : Int) - ((x2 : Nat) : Int)) + ((x0 : Nat) : Int))) : 40 < (x0 + (x1 - x2)) := by first | lia | omega
theorem bi3 {x0 : Nat}  (h0 : 140 ≤ x0) : 2 ≤ x0 := o5 x0 (.k 1 (.num 140) c8 .o) I7 c8 tt h0
theorem bJ8 {x0 : Nat}  (h0 : 140 ≤ x0) : 139 ≤ (x0 - 1) := n8 x0 (x0 - 1) (.k 1 (.num 140) c8 (.k 1 c8 y0 .o)) (.num 139) d5 tt h0 (A7 x0 1)
theorem bU2 {x0 : Nat}  (h0 : 140 ≤ x0) : 138 ≤ ((x0 - 1) - 1) := z3 x0 (x0 - 1) ((x0 - 1) - 1) (.k 1 (.num 140) c8 (.k 1 d5 D9 (.k 1 c8 y0 .o))) (.num 138) e9 tt h0 (A7 (x0 - 1) 1) (A7 x0 1)
theorem bU1 {x0 x1 x2 : Nat}  (h0 : x0 ≤ 40) (h1 : x1 ≤ 40) : (x0 + (x1 - x2)) ≤ 16777216 := z3 x0 x1 (x1 - x2) (.k 1 c8 (.num 40) (.k 1 d5 (.num 40) (.k 1 e9 d5 .o))) (.add c8 e9) (.num 16777216) tt h0 h1 (Nat.sub_le x1 x2)
theorem bU0 {x0 : Nat}  (h0 : x0 < 5) : (x0 = 0) ∨ ((x0 = 1) ∨ ((x0 = 2) ∨ ((x0 = 3) ∨ (x0 = 4)))) := by first | lia | omega
theorem aK9 {x0 : Nat}  (h0 : 138 ≤ x0) : 3 ≤ x0 := o5 x0 (.k 1 (.num 138) c8 .o) R4 c8 tt h0
theorem bT9 {x1 : Nat} {x0 : Int} (h0 : ((x1 : Nat) : Int) ≤ x0) (h1 : 40 < x1) : (40 : Int) < x0 := Int.lt_of_lt_of_le (Int.ofNat_lt.mpr h1) h0
theorem bi2 {x0 : Nat}  (h0 : 139 ≤ x0) : 130 ≤ x0 := o5 x0 (.k 1 (.num 139) c8 .o) (.num 130) c8 tt h0
theorem bT8 {x0 x1 x2 x3 x4 : Nat}  (h0 : (x4 + x2) = x3) (h1 : x0 = x3) (h2 : x1 = x4) : (((x0 : Nat) : Int) - ((x1 : Nat) : Int)) = ((x2 : Nat) : Int) := by first | lia | omega
theorem aK8 {x0 : Nat}  (h0 : 138 ≤ x0) : 120 ≤ x0 := o5 x0 (.k 1 (.num 138) c8 .o) (.num 120) c8 tt h0
theorem bT7 {x0 x1 : Nat} (h0 : (x1 - 1) < x1) (h1 : x0 = x1) : (Int.toNat ((-(1 : Int)) + ((x0 : Nat) : Int))) = (x1 - 1) := by subst h1; rw [Int.add_comm]; exact Int.toNat_sub x0 1
theorem bT6 {x0 x1 : Nat} (h0 : 1 ≤ x0) (h1 : x0 = x1) : (-((x0 : Nat) : Int)) ≤ (-(1 : Int)) := Int.neg_le_neg (Int.ofNat_le.mpr h0)
theorem bT5 {x0 : Nat} (h0 : 1 ≤ x0) : (-((x0 : Nat) : Int)) ≤ (-(1 : Int)) := Int.neg_le_neg (Int.ofNat_le.mpr h0)
theorem bT4 {x1 : Nat} {x0 : Int} (h0 : x0 < (0 : Int)) : (Int.toNat (x0 + ((x1 : Nat) : Int))) ≤ x1 := Int.toNat_le.mpr (Int.le_trans (Int.add_le_add_right (Int.le_of_lt h0) _) (Int.le_of_eq (Int.zero_add _)))
theorem bT3 {x1 : Nat} {x0 : Int} : (min (Int.toNat x0) x1) ≤ x1 := Nat.min_le_right _ _
theorem bT2 {x0 : Int} (h0 : (0 : Int) ≤ x0) : (-((2 : Int) ^ 63)) ≤ x0 := Int.le_trans (by decide) h0
theorem bT1 {x0 : Int} (h0 : x0 < ((2 : Int) ^ 62)) : x0 < ((2 : Int) ^ 63) := Int.lt_trans h0 (by decide)
theorem bT0 {x1 : Nat} {x0 : Int} (h0 : (0 : Int) ≤ x0) (h1 : (Int.toNat x0) < x1) : x0 < ((x1 : Nat) : Int) := (Int.toNat_lt h0).mp h1
theorem bS9 {x0 x1 x2 : Nat}  (h0 : (x2 - x0) = x1) (h1 : x2 ≤ x1) (h2 : ¬ (x1 = 0)) : x0 = 0 := Or.elim (ac9 h2) (fun u1 => (Nat.le_antisymm (False.elim (f'1 x1 (.k 1 i9 w9 .o) tt u1)) (o5 x0 .o w9 c8 tt ))) (fun u2 => (Or.elim (Nat.le_total x2 x0) (fun u3 => (Nat.le_antisymm (False.elim (f'2 x1 (x2 - x0) (.k 1 c8 d5 (.k 1 (.add w9 k9) c8 (.k 1 d5 w9 .o))) tt (Nat.le_of_eq (Eq.symm h0)) u2 (sbZ u3))) (o5 x0 .o w9 c8 tt ))) (fun u4 => (Nat.le_antisymm (I0 x1 (x2 - x0) x2 x0 (.k 1 c8 d5 (.k 1 e9 c8 (.k 1 (.add d5 o7) e9 .o))) o7 w9 tt (Nat.le_of_eq (Eq.symm h0)) h1 (F1 u4)) (o5 x0 .o w9 c8 tt )))))
theorem bS8 {x0 x1 x2 : Nat}  (h0 : (x0 - x2) = x1) (h1 : x0 ≤ x1) : x0 = x1 := Nat.le_antisymm (n8 x0 x1 (.k 1 c8 d5 .o) c8 d5 tt h1) (z3 (x0 - x2) x0 x1 (.k 1 c8 d5 (.k 1 e9 c8 .o)) e9 d5 tt (Nat.sub_le x0 x2) (Nat.le_of_eq (Eq.symm h0)))
theorem bS7 {x0 : Int} (h0 : (0 : Int) ≤ x0) : ¬ (x0 < (-((2 : Int) ^ 63))) := Int.not_lt.mpr (Int.le_trans (by decide) h0)
theorem bS6 {x1 : Nat} {x0 : Int} (h0 : x0 < ((x1 : Nat) : Int)) (h1 : x1 < (2 ^ 62)) : ¬ (x0 ≥ ((2 : Int) ^ 63)) := Int.not_le.mpr (Int.lt_trans h0 (Int.lt_trans (Int.ofNat_lt.mpr h1) (by decide)))
theorem aw3 {x0 : Nat}  (h0 : x0 ≤ 10000) : x0 ≤ 16777216 := o5 x0 (.k 1 c8 (.num 10000) .o) c8 (.num 16777216) tt h0
theorem aV1 {x0 x1 : Nat}  (h0 : x0 = x1) (h1 : x1 ≤ 10000) : x0 ≤ 16777216 := n8 x0 x1 (.k 1 c8 d5 (.k 1 d5 (.num 10000) .o)) c8 (.num 16777216) tt (Nat.le_of_eq h0) h1
theorem bS5 {x0 x1 : Nat}  (h0 : x1 < 2) : (min x0 x1) ≤ 10000 := n8 x1 (min x0 x1) (.k 1 i9 I7 (.k 1 d5 c8 .o)) d5 (.num 10000) tt h0 (Nat.min_le_right x0 x1)
theorem bS4 {x0 x1 x2 : Nat}  (h0 : x0 = (min x2 x1)) (h1 : x1 ≤ 10000) : x0 ≤ 10000 := z3 (min x2 x1) x1 x0 (.k 1 c8 d5 (.k 1 e9 c8 (.k 1 d5 (.num 10000) .o))) e9 (.num 10000) tt (Nat.min_le_right x2 x1) (Nat.le_of_eq h0) h1
theorem bt2 {x0 : Nat}  (h0 : x0 ≤ 100) : x0 ≤ 16777216 := o5 x0 (.k 1 c8 (.num 100) .o) c8 (.num 16777216) tt h0
theorem bJ7 {x0 x1 x2 : Nat}  (h0 : x1 = x2) (h1 : x2 ≤ 150) : (min x0 x1) ≤ 10000 := z3 x1 x2 (min x0 x1) (.k 1 c8 d5 (.k 1 d5 (.num 150) (.k 1 e9 c8 .o))) e9 (.num 10000) tt (Nat.le_of_eq h0) h1 (Nat.min_le_right x0 x1)
theorem bS3 {x0 x1 x2 : Nat}  (h0 : (x0 + x1) = x2) (h1 : x2 ≤ 100) : (x0 + x1) ≤ 100 := z3 x0 x1 x2 (.k 1 (.add c8 d5) e9 (.k 1 e9 (.num 100) .o)) (.add c8 d5) (.num 100) tt (Nat.le_of_eq h0) h1
theorem bS1 {x0 : Nat}  (h0 : 5 ≤ x0) : 3 ≤ (x0 - 1) := n8 x0 (x0 - 1) (.k 1 c'5 c8 (.k 1 c8 y0 .o)) R4 d5 tt h0 (A7 x0 1)
theorem bS0 {x0 x1 : Nat}  (h0 : x0 ≤ 100) : (x0 + (min x1 x0)) ≤ 10000 := n8 x0 (min x1 x0) (.k 2 c8 (.num 100) (.k 1 d5 c8 .o)) (.add c8 d5) (.num 10000) tt h0 (Nat.min_le_right x1 x0)
theorem bR9 {x0 x1 : Nat}  (h0 : x0 ≤ (10 + x1)) (h1 : x1 < 3) : ¬ ((40 : Int) < ((((x0 : Nat) : Int) - (0 : Int)) + (1 : Int))) := by first | lia | omega
theorem bD8 {x0 : Nat}  (h0 : 130 ≤ x0) : 120 ≤ (x0 - 1) := n8 x0 (x0 - 1) (.k 1 (.num 130) c8 (.k 1 c8 y0 .o)) (.num 120) d5 tt h0 (A7 x0 1)
theorem bR8 {x0 : Nat}  (h0 : 130 ≤ x0) : 80 ≤ (x0 - 1) := n8 x0 (x0 - 1) (.k 1 (.num 130) c8 (.k 1 c8 y0 .o)) (.num 80) d5 tt h0 (A7 x0 1)
theorem bR7 {x0 : Nat}  (h0 : 141 ≤ x0) : 140 ≤ (x0 - 1) := n8 x0 (x0 - 1) (.k 1 (.num 141) c8 (.k 1 c8 y0 .o)) (.num 140) d5 tt h0 (A7 x0 1)
theorem bR6 {x0 x1 : Nat}  (h0 : x1 = 40) : (min (3 * x0) x1) ≤ 40 := n8 x1 (min (3 * x0) x1) (.k 1 c8 (.num 40) (.k 1 d5 c8 .o)) d5 (.num 40) tt (Nat.le_of_eq h0) (Nat.min_le_right (3 * x0) x1)
theorem bR5 {x0 : Nat}   : (1 + (min 39 x0)) ≤ 16777216 := o5 (min 39 x0) (.k 1 c8 (.num 39) .o) (.add k9 c8) (.num 16777216) tt (Nat.min_le_left 39 x0)
theorem bR4 {x0 : Nat}   : (1 + (min 39 x0)) ≤ 40 := o5 (min 39 x0) (.k 1 c8 (.num 39) .o) (.add k9 c8) (.num 40) tt (Nat.min_le_left 39 x0)
theorem bD7 {x0 : Nat}  (h0 : 150 ≤ x0) : (3 + 1) ≤ x0 := o5 x0 (.k 1 (.num 150) c8 .o) (.add R4 k9) c8 tt h0
theorem bR3 {x0 x1 : Nat}  (h0 : x0 ≤ 10000) : (x0 + (x1 * 0)) ≤ 16777216 := z3 x0 (x1 * 0) x1 (.k 1 c8 (.num 10000) (.k 1 d5 (.mulL 0 e9) .o)) (.add c8 d5) (.num 16777216) tt h0 (Nat.le_of_eq (Nat.mul_comm x1 0))
theorem bD6 {x0 : Nat}  (h0 : 150 ≤ x0) : 0 < x0 := o5 x0 (.k 1 (.num 150) c8 .o) (.add w9 k9) c8 tt h0
theorem bJ6 {x0 : Nat}  (h0 : 150 ≤ x0) : 130 ≤ (x0 - 1) := n8 x0 (x0 - 1) (.k 1 (.num 150) c8 (.k 1 c8 y0 .o)) (.num 130) d5 tt h0 (A7 x0 1)
theorem bD5 {x0 : Nat}  (h0 : x0 ≤ 40) : x0 < 50 := o5 x0 (.k 1 c8 (.num 40) .o) i9 (.num 50) tt h0
theorem bJ5 {x0 : Nat}  (h0 : 60 ≤ x0) : 2 ≤ (x0 - 1) := n8 x0 (x0 - 1) (.k 1 (.num 60) c8 (.k 1 c8 y0 .o)) I7 d5 tt h0 (A7 x0 1)
theorem bR2 {x0 : Nat}  (h0 : 61 ≤ x0) : 60 ≤ (x0 - 1) := n8 x0 (x0 - 1) (.k 1 (.num 61) c8 (.k 1 c8 y0 .o)) (.num 60) d5 tt h0 (A7 x0 1)
theorem bD4 {x0 : Nat}  (h0 : 600 ≤ x0) : 150 ≤ x0 := o5 x0 (.k 1 (.num 600) c8 .o) (.num 150) c8 tt h0
theorem bR1 {x0 : Int} (h0 : ((x0 / (8 : Int)) % (4 : Int)) < (4 : Int)) : ((x0 / (8 : Int)) % (4 : Int)) ≤ (3 : Int) := Int.le_of_lt_add_one h0
theorem bR0 {x0 : Nat}  (h0 : 60 ≤ x0) : 53 ≤ (x0 - 1) := n8 x0 (x0 - 1) (.k 1 (.num 60) c8 (.k 1 c8 y0 .o)) (.num 53) d5 tt h0 (A7 x0 1)
theorem bQ9 {x0 : Nat}  (h0 : 60 ≤ x0) : 0 < (x0 - 1) := n8 x0 (x0 - 1) (.k 1 (.num 60) c8 (.k 1 c8 y0 .o)) (.add w9 k9) d5 tt h0 (A7 x0 1)
theorem aV0 {x0 : Nat}  (h0 : 70 ≤ x0) : 60 ≤ x0 := o5 x0 (.k 1 (.num 70) c8 .o) (.num 60) c8 tt h0
theorem S7 {x0 : Nat}  (h0 : 120 ≤ x0) : 3 ≤ x0 := o5 x0 (.k 1 (.num 120) c8 .o) R4 c8 tt h0
theorem bJ4 {x0 : Nat}  (h0 : 150 ≤ x0) : 0 < (x0 - 1) := n8 x0 (x0 - 1) (.k 1 (.num 150) c8 (.k 1 c8 y0 .o)) (.add w9 k9) d5 tt h0 (A7 x0 1)
theorem bJ3 {x0 : Nat}  (h0 : 70 ≤ x0) : 52 ≤ (x0 - 1) := n8 x0 (x0 - 1) (.k 1 (.num 70) c8 (.k 1 c8 y0 .o)) (.num 52) d5 tt h0 (A7 x0 1)
theorem bt1 {x0 : Nat}  (h0 : x0 ≤ 150) : x0 ≤ 10000 := o5 x0 (.k 1 c8 (.num 150) .o) c8 (.num 10000) tt h0
theorem ag3 {x0 : Nat}  (h0 : 120 ≤ x0) : 70 ≤ x0 := o5 x0 (.k 1 (.num 120) c8 .o) (.num 70) c8 tt h0
theorem bi1 {x0 : Nat}  (h0 : 120 ≤ x0) : 110 ≤ x0 := o5 x0 (.k 1 (.num 120) c8 .o) (.num 110) c8 tt h0
theorem aU9 {x0 : Nat}  (h0 : 120 ≤ x0) : 0 < x0 := o5 x0 (.k 1 (.num 120) c8 .o) (.add w9 k9) c8 tt h0
theorem bt0 {x0 : Nat}  (h0 : 120 ≤ x0) : 70 ≤ (x0 - 1) := n8 x0 (x0 - 1) (.k 1 (.num 120) c8 (.k 1 c8 y0 .o)) (.num 70) d5 tt h0 (A7 x0 1)
theorem bJ2 {x0 x1 x2 : Nat}  (h0 : x1 ≤ 63) : ((min x0 x1) - x2) ≤ 63 := z3 x1 ((min x0 x1) - x2) (min x0 x1) (.k 1 c8 (.num 63) (.k 1 d5 e9 (.k 1 e9 c8 .o))) d5 (.num 63) tt h0 (Nat.sub_le (min x0 x1) x2) (Nat.min_le_right x0 x1)
theorem bQ8 {x0 : Int} : (Int.toNat ((1 : Int) + ((x0 / (10 : Int)) % (60 : Int)))) ≤ 60 := Int.toNat_le.mpr (Int.add_comm 1 _ ▸ Int.add_one_le_of_lt (Int.emod_lt_of_pos _ (by decide)))
theorem bQ7 {x0 : Int} (h0 : ¬ ((1 : Int) < (x0 % (5 : Int)))) : ((x0 % (5 : Int)) = (0 : Int)) ∨ ((x0 % (5 : Int)) = (1 : Int)) := by first | lia | omega
theorem bQ6 {x0 : Int} : (0 : Int) ≤ ((1 : Int) + ((x0 / (10 : Int)) % (60 : Int))) := Int.add_nonneg (by decide) (Int.emod_nonneg _ (by decide))
theorem aD9 {x0 x1 : Nat}  (h0 : ((x1 + 1) + 1) ≤ x0) : 0 < x0 := n8 x1 x0 (.k 1 (.add i9 k9) d5 .o) (.add w9 k9) d5 tt h0
theorem bQ5 {x0 x1 : Nat}  (h0 : (x0 + 2) ≤ x1) : (x0 + 1) ≤ (x1 - 1) := z3 x0 x1 (x1 - 1) (.k 1 (.add c8 I7) d5 (.k 1 d5 D9 .o)) i9 e9 tt h0 (A7 x1 1)
theorem aK7 {x0 : Nat}  (h0 : 2 ≤ x0) : 0 < (x0 - 1) := n8 x0 (x0 - 1) (.k 1 I7 c8 (.k 1 c8 y0 .o)) (.add w9 k9) d5 tt h0 (A7 x0 1)
theorem bQ4 {x0 : Nat}   : (min 1 x0) ≤ 1 := o5 (min 1 x0) (.k 1 c8 k9 .o) c8 k9 tt (Nat.min_le_left 1 x0)
theorem bQ3 {x0 x1 x2 : Nat}  (h0 : (x2 + 1) ≤ 300) (h1 : x1 < (x2 + 1)) : (min x0 x1) ≤ 1000 := z3 x2 x1 (min x0 x1) (.k 1 i9 (.num 300) (.k 1 y0 i9 (.k 1 e9 d5 .o))) e9 (.num 1000) tt h0 h1 (Nat.min_le_right x0 x1)
theorem bD3 {x0 x1 : Nat}  (h0 : ((x0 + 1) + 1) ≤ x1) : (x0 + 1) ≤ (x1 - 1) := z3 x0 x1 (x1 - 1) (.k 1 (.add i9 k9) d5 (.k 1 d5 D9 .o)) i9 e9 tt h0 (A7 x1 1)
theorem bQ2 {x0 x1 x2 x3 x4 : Nat}  (h0 : (x0 + (301 * (x4 + 1))) ≤ 200000) (h1 : (x4 + 1) ≤ 300) (h2 : x2 < (x4 + 1)) (h3 : x3 ≤ 1) : (((x0 + (min x1 x2)) + x3) + (301 * x4)) ≤ 200000 := l'5 x0 x4 x2 x3 (min x1 x2) (.k 1 (.add c8 (.mulL 301 y0)) (.num 200000) (.k 1 y0 (.num 300) (.k 1 D9 y0 (.k 1 o7 k9 (.k 1 A9 e9 .o))))) (.add (.add (.add c8 A9) o7) (.mulL 301 d5)) (.num 200000) tt h0 h1 h2 h3 (Nat.min_le_right x1 x2)
theorem bQ1 {x0 x1 : Nat}  (h0 : x0 ≤ x1) : (min x0 x1) = x0 := Nat.le_antisymm (n8 (min x0 x1) x0 (.k 1 c8 d5 .o) c8 d5 tt (Nat.min_le_left x0 x1)) (n8 x0 (min x0 x1) (.k 1 c8 d5 .o) c8 d5 tt (Z4 (n8 x0 x1 (.k 1 c8 d5 .o) c8 d5 tt h0)))
theorem bQ0 {x0 x1 : Nat}  (h0 : x0 ≤ 40) : (x0 - x1) ≤ 40 := n8 x0 (x0 - x1) (.k 1 c8 (.num 40) (.k 1 d5 c8 .o)) d5 (.num 40) tt h0 (Nat.sub_le x0 x1)
theorem bJ1 {x0 x1 : Nat}  (h0 : x1 ≤ 150) : (min x0 x1) ≤ 150 := n8 x1 (min x0 x1) (.k 1 c8 (.num 150) (.k 1 d5 c8 .o)) d5 (.num 150) tt h0 (Nat.min_le_right x0 x1)
theorem bJ0 {x0 x1 : Nat}  (h0 : x0 ≤ 1000) : (x0 - x1) ≤ 16777216 := n8 x0 (x0 - x1) (.k 1 c8 (.num 1000) (.k 1 d5 c8 .o)) d5 (.num 16777216) tt h0 (Nat.sub_le x0 x1)
theorem bP9 {x0 x1 : Nat}  (h0 : x0 ≤ 1000) : (x0 - (x1 + 1)) ≤ 1000 := n8 x0 (x0 - (x1 + 1)) (.k 1 c8 (.num 1000) (.k 1 d5 c8 .o)) d5 (.num 1000) tt h0 (Nat.sub_le x0 (x1 + 1))
theorem bP8 {x0 x1 : Nat}  (h0 : ((x1 + 1) + 1) ≤ x0) : 0 < (x0 - 1) := z3 x1 x0 (x0 - 1) (.k 1 (.add i9 k9) d5 (.k 1 d5 D9 .o)) (.add w9 k9) e9 tt h0 (A7 x0 1)
theorem bD2 {x0 x1 x2 : Nat}  (h0 : (x0 + x1) = (x2 + 1)) (h1 : x1 ≤ x2) : (x0 - 1) < x0 := n8 (x0 - 1) x0 (.k 1 i9 d5 .o) i9 d5 tt (F1 (z3 x2 x0 x1 (.k 1 i9 (.add d5 e9) (.k 1 e9 c8 .o)) k9 d5 tt (Nat.le_of_eq (Eq.symm h0)) h1))
theorem bD1 {x0 x1 x2 : Nat}  (h0 : (x0 + x1) = (x2 + 1)) (h1 : x1 ≤ x2) : ((x0 - 1) + (x1 + 1)) = (x2 + 1) := Nat.le_antisymm (I0 x0 x1 x2 (x0 - 1) (.k 1 (.add c8 d5) D9 (.k 1 I9 c8 .o)) (.add o7 y0) D9 tt (Nat.le_of_eq h0) (F1 (z3 x2 x0 x1 (.k 1 i9 (.add d5 e9) (.k 1 e9 c8 .o)) k9 d5 tt (Nat.le_of_eq (Eq.symm h0)) h1))) (I0 x2 x0 x1 (x0 - 1) (.k 1 i9 (.add d5 e9) (.k 1 d5 I9 .o)) i9 (.add o7 D9) tt (Nat.le_of_eq (Eq.symm h0)) (A7 x0 1))
theorem bP7 {x0 : Int} (h0 : (0 : Int) < x0) (h1 : x0 < (1073741824 : Int)) : (Int.natAbs x0) < 1073741824 := (Int.eq_ofNat_of_zero_le (Int.le_of_lt h0)).elim fun n e => by subst e; exact Int.ofNat_lt.mp h1
theorem bP6 {x0 : Nat} : (((x0 : Nat) : Int) ≤ (40 : Int)) ↔ (x0 ≤ 40) := Int.ofNat_le
theorem bP5 {x0 : Int} : (Int.toNat (x0 % (94 : Int))) < 94 := (Int.toNat_lt (Int.emod_nonneg _ (by decide))).mpr (Int.emod_lt_of_pos _ (by decide))
theorem bP4 {x0 : Int}  : ((Int.toNat ((x0 / (23 : Int)) % (5 : Int))) = 0) ∨ (((Int.toNat ((x0 / (23 : Int)) % (5 : Int))) = 1) ∨ (((Int.toNat ((x0 / (23 : Int)) % (5 : Int))) = 2) ∨ (((Int.toNat ((x0 / (23 : Int)) % (5 : Int))) = 3) ∨ ((Int.toNat ((x0 / (23 : Int)) % (5 : Int))) = 4)))) := by first | lia | omega
theorem bP3 {x0 : Nat}   : (min 40 x0) ≤ 1000 := o5 (min 40 x0) (.k 1 c8 (.num 40) .o) c8 (.num 1000) tt (Nat.min_le_left 40 x0)
theorem bP2 {x1 : Nat} {x0 : Int} (h0 : x1 ≤ 40) : (min (Int.toNat (((x0 * (48271 : Int)) % (2147483647 : Int)) % (((x1 : Nat) : Int) + (1 : Int)))) x1) ≤ 1000 := Nat.le_trans (Nat.min_le_right _ _) (Nat.le_trans h0 (by decide))
theorem bP1 {x0 x1 : Nat} : (((x0 : Nat) : Int) = ((x1 : Nat) : Int)) ↔ (x0 = x1) := Int.ofNat_inj
theorem bP0 {x0 : Int} : (x0 % (10 : Int)) < ((2 : Int) ^ 62) := Int.lt_trans (Int.emod_lt_of_pos _ (by decide)) (by decide : (10 : Int) < 2 ^ 62)
theorem bs9 {x0 : Nat}  (h0 : 70 ≤ x0) : 3 ≤ x0 := o5 x0 (.k 1 (.num 70) c8 .o) R4 c8 tt h0
theorem bs8 {x0 : Nat}  (h0 : 70 ≤ x0) : 2 ≤ x0 := o5 x0 (.k 1 (.num 70) c8 .o) I7 c8 tt h0
theorem bO9 {x0 : Nat}  (h0 : 70 ≤ x0) : 61 ≤ (x0 - 1) := n8 x0 (x0 - 1) (.k 1 (.num 70) c8 (.k 1 c8 y0 .o)) (.num 61) d5 tt h0 (A7 x0 1)
theorem bO8 {x0 : Nat}  (h0 : 3 ≤ x0) : 0 < (x0 - 1) := n8 x0 (x0 - 1) (.k 1 R4 c8 (.k 1 c8 y0 .o)) (.add w9 k9) d5 tt h0 (A7 x0 1)
theorem bs7 {x0 x1 x2 : Nat}  (h0 : x0 ≤ x2) (h1 : x1 ≤ 150) (h2 : x2 = x1) : x0 ≤ 10000 := z3 x0 x2 x1 (.k 1 c8 d5 (.k 1 e9 (.num 150) (.k 1 d5 e9 .o))) c8 (.num 10000) tt h0 h1 (Nat.le_of_eq h2)
theorem bO7 {x0 : Nat}  (h0 : 80 ≤ x0) : 70 ≤ (x0 - 1) := n8 x0 (x0 - 1) (.k 1 (.num 80) c8 (.k 1 c8 y0 .o)) (.num 70) d5 tt h0 (A7 x0 1)
theorem bO6 {x0 x1 x2 x3 : Nat}  (h0 : x0 = x2) (h1 : x1 ≤ 10000) (h2 : x2 ≤ (min x3 x1)) : x0 ≤ 10000 := I0 x0 x2 x1 (min x3 x1) (.k 1 c8 d5 (.k 1 e9 (.num 10000) (.k 1 o7 e9 (.k 1 d5 o7 .o)))) c8 (.num 10000) tt (Nat.le_of_eq h0) h1 (Nat.min_le_right x3 x1) h2
theorem bO5 {x0 x1 x2 : Nat}  (h0 : x0 ≤ (min x2 x1)) (h1 : x1 ≤ 10000) : x0 ≤ 10000 := z3 (min x2 x1) x1 x0 (.k 1 c8 d5 (.k 1 e9 c8 (.k 1 d5 (.num 10000) .o))) e9 (.num 10000) tt (Nat.min_le_right x2 x1) h0 h1
theorem bD0 {x0 x1 : Nat}  (h0 : ((x1 + 1) + 2) ≤ x0) : 0 < x0 := n8 x1 x0 (.k 1 (.add i9 I7) d5 .o) (.add w9 k9) d5 tt h0
theorem bO4 {x0 x1 x2 x3 : Nat}  (h0 : (x2 ≤ x1) ∧ (x2 ≤ x3)) (h1 : x0 = x2) : (min x0 x1) = x0 := Nat.le_antisymm (n8 (min x0 x1) x0 (.k 1 c8 d5 .o) c8 d5 tt (Nat.min_le_left x0 x1)) (n8 x0 (min x0 x1) (.k 1 c8 d5 .o) c8 d5 tt (Z4 (z3 x2 x1 x0 (.k 1 c8 d5 (.k 1 e9 c8 .o)) e9 d5 tt (And.left h0) (Nat.le_of_eq h1))))
theorem bO3 {x0 x1 : Nat}  (h0 : (((x0 : Nat) : Int) == (0 : Int)) = true) (h1 : 2 ≤ x1) (h2 : x0 = x1) : False := f'2 x0 x1 (.k 1 c8 w9 (.k 1 I7 d5 (.k 1 d5 c8 .o))) tt (Nat.le_of_eq (Int.ofNat_inj.mp (eq_of_beq h0))) h1 (Nat.le_of_eq (Eq.symm h2))
theorem bO2 {x0 x1 : Nat}  (h0 : (((x0 : Nat) : Int) == (1 : Int)) = true) (h1 : 2 ≤ x1) (h2 : x0 = x1) : False := f'2 x0 x1 (.k 1 c8 k9 (.k 1 I7 d5 (.k 1 d5 c8 .o))) tt (Nat.le_of_eq (Int.ofNat_inj.mp (eq_of_beq h0))) h1 (Nat.le_of_eq (Eq.symm h2))
theorem bC9 {x0 x1 : Nat}  (h0 : (x1 + 1) ≤ 300) (h1 : x0 < (x1 + 1)) : x0 ≤ 1000 := n8 x1 x0 (.k 1 i9 (.num 300) (.k 1 y0 i9 .o)) d5 (.num 1000) tt h0 h1
theorem bI9 {x0 x1 : Nat}  (h0 : ((x1 + 1) + 2) ≤ x0) : 0 < (x0 - 1) := z3 x1 x0 (x0 - 1) (.k 1 (.add i9 I7) d5 (.k 1 d5 D9 .o)) (.add w9 k9) e9 tt h0 (A7 x0 1)
theorem bO1 {x0 x1 : Nat}  (h0 : ((x0 + 1) + 2) ≤ x1) : (x0 + 2) ≤ (x1 - 1) := z3 x0 x1 (x1 - 1) (.k 1 (.add i9 I7) d5 (.k 1 d5 D9 .o)) (.add c8 I7) e9 tt h0 (A7 x1 1)
theorem bO0 {x0 x1 x2 : Nat}  (h0 : x1 ≤ x2) (h1 : x2 ≤ 1000) : (min x0 x1) ≤ 16777216 := z3 x1 x2 (min x0 x1) (.k 1 c8 d5 (.k 1 d5 (.num 1000) (.k 1 e9 c8 .o))) e9 (.num 16777216) tt h0 h1 (Nat.min_le_right x0 x1)
theorem bN9 {x0 x1 : Nat}  (h0 : (x0 + 1) < x1) : (min x0 x1) = x0 := Nat.le_antisymm (n8 (min x0 x1) x0 (.k 1 c8 d5 .o) c8 d5 tt (Nat.min_le_left x0 x1)) (n8 x0 (min x0 x1) (.k 1 c8 d5 .o) c8 d5 tt (Z4 (n8 x0 x1 (.k 1 (.add i9 k9) d5 .o) c8 d5 tt h0)))
theorem bN8 {x0 : Nat}   : ((x0 + 2) - x0) = 2 := Nat.le_antisymm (n8 ((x0 + 2) - x0) x0 (.k 1 (.add c8 d5) (.add d5 I7) .o) c8 I7 tt (F1 (o5 x0 .o c8 (.add c8 I7) tt ))) (n8 x0 ((x0 + 2) - x0) (.k 1 (.add c8 I7) (.add d5 c8) .o) I7 d5 tt (A7 (x0 + 2) x0))
theorem bN7 {x0 x1 x2 : Nat}  (h0 : (x2 + 1) < x1) (h1 : x0 = ((min x2 x1) + ((x1 - (x2 + 2)) + 1))) : (x0 + 1) = x1 := Nat.le_antisymm (l'5 (min x2 x1) x2 x0 (x1 - (x2 + 2)) x1 (.k 1 c8 d5 (.k 1 e9 (.add c8 I9) (.k 1 (.add o7 (.add d5 I7)) A9 .o))) D9 A9 tt (Nat.min_le_left x2 x1) (Nat.le_of_eq h1) (F1 (n8 x2 x1 (.k 1 (.add i9 k9) d5 .o) (.add c8 I7) d5 tt h0))) (l'5 x1 (x1 - (x2 + 2)) x2 (min x2 x1) x0 (.k 1 c8 (.add d5 (.add e9 I7)) (.k 1 (.add o7 y0) A9 (.k 1 e9 o7 .o))) c8 s'4 tt (A7 x1 (x2 + 2)) (Nat.le_of_eq (Eq.symm h1)) (Z4 (n8 x2 x1 (.k 1 (.add i9 k9) d5 .o) c8 d5 tt h0)))
theorem bN6 {x0 : Nat}  (h0 : ¬ (x0 ≤ 1)) : ((x0 - 2) + 1) < x0 := n8 (x0 - 2) x0 (.k 1 (.add c8 I7) d5 .o) (.add i9 k9) d5 tt (F1 (o5 x0 (.k 1 (.add k9 k9) c8 .o) I7 c8 tt (Nat.lt_of_not_le h0)))
theorem bN5 {x0 x1 : Int} (h0 : x1 < x0) : (x0 - x1) = (((Int.toNat (x0 - x1)) : Nat) : Int) := (Int.toNat_of_nonneg (Int.sub_nonneg_of_le (Int.le_of_lt h0))).symm
theorem bN4 {x0 x1 : Int} (h0 : ¬ (x1 < x0)) : (0 : Int) = (((Int.toNat (x0 - x1)) : Nat) : Int) := by rw [Int.toNat_of_nonpos (Int.sub_nonpos_of_le (Int.not_lt.mp h0))]; rfl
end Mine
namespace Mine
open PySem PyProof.Rows
abbrev f9 := PyProof.Rows.Keyed
noncomputable def kk (K : f9 → Int) (a : Array f9) (i : Nat) : Int := match a[i]? with
 | some x => K x
 | none => 0
def AllS (S : f9 → Prop) (a : Array f9) : Prop := ∀ (i : Nat) (x : f9), a[i]? = some x → S x
def SortedOn (K : f9 → Int) (a : Array f9) (lo hi : Nat) : Prop := ∀ i j, lo ≤ i → i ≤ j → j < hi → kk K a i ≤ kk K a j
section
variable {M : Model} {A : Around} {E : Value → Shared → Prop} {s : Shared} {κ : SortKind} {S : f9 → Prop} {K : f9 → Int}
def bK6 (M : Model) (A : Around) (E : Value → Shared → Prop) (s : Shared) (κ : SortKind) (S : f9 → Prop) (K : f9 → Int) : Prop :=
 ∀ (x y : f9) (st : SortSt) (Q : Option Bool → SortSt → Prop), S x → S y → PyProof.Rows.kindOf st = κ → Q (some (decide (K x < K y))) st → PyProof.Rows.wpS M A E s (lt' x y) Q st
noncomputable def Z9 : Bool → f9 → Array f9 → Nat → Nat → Nat → StateT SortSt Sem (Option Nat) := sortPriv% PySem.Builtin.gallop
end
section
variable {K : f9 → Int} {a b out : List f9} {ia ib k : Nat}
def Asc (K : f9 → Int) (l : List f9) : Prop := l.Pairwise fun x y => K x ≤ K y
theorem Asc.take (h : Asc K a) (n : Nat) : Asc K (a.take n) := h.sublist (List.take_sublist _ _)
theorem Asc.drop (h : Asc K a) (n : Nat) : Asc K (a.drop n) := h.sublist (List.drop_sublist _ _)
theorem Asc.cut (h : Asc K a) (n : Nat) {x y : f9} (hx : x ∈ a.take n) (hy : y ∈ a.drop n) : K x ≤ K y := by
 have : Asc K (a.take n ++ a.drop n) := by rw [List.take_append_drop]; exact h
 exact (List.pairwise_append.mp this).2.2 x hx y hy
structure Mrg (K : f9 → Int) (a b out : List f9) (ia ib : Nat) : Prop where
 perm : out.Perm (a.take ia ++ b.take ib)
 sorted : Asc K out
 low : ∀ x ∈ out, ∀ y, y ∈ a.drop ia ∨ y ∈ b.drop ib → K x ≤ K y
theorem Mrg.swap (h : Mrg K a b out ia ib) : Mrg K b a out ib ia := ⟨h.perm.trans List.perm_append_comm, h.sorted, fun x hx y hy => h.low x hx y hy.symm⟩
theorem au6 {x : f9} {n m : Nat} (h : x ∈ a.drop (n + m)) : x ∈ a.drop n := by
 rw [← List.drop_drop] at h; exact List.mem_of_mem_drop h
theorem Mrg.addB (h : Mrg K a b out ia ib) (hb : Asc K b) (k : Nat) (hc : ∀ y ∈ (b.drop ib).take k, ∀ z ∈ a.drop ia, K y ≤ K z) : Mrg K a b (out ++ (b.drop ib).take k) ia (ib + k) := by
 refine ⟨?_, ?_, ?_⟩
 ·refine (h.perm.append_right _).trans ?_
  rw [List.append_assoc, List.take_add]
 ·refine List.pairwise_append.mpr ⟨h.sorted, (hb.drop ib).take k, fun x hx y hy => h.low x hx y (.inr (List.mem_of_mem_take hy))⟩
 ·intro x hx y hy
  rcases List.mem_append.mp hx with hx | hx
  ·exact h.low x hx y (hy.imp id au6)
  ·rcases hy with hy | hy
   ·exact hc x hx y hy
   ·rw [← List.drop_drop] at hy
    exact (hb.drop ib).cut k hx hy
theorem Mrg.addA (h : Mrg K a b out ia ib) (ha : Asc K a) (k : Nat) (hc : ∀ y ∈ (a.drop ia).take k, ∀ z ∈ b.drop ib, K y ≤ K z) : Mrg K a b (out ++ (a.drop ia).take k) (ia + k) ib := (h.swap.addB ha k hc).swap
theorem Mrg.all (h : Mrg K a b out ia ib) (ha : Asc K a) (hb : Asc K b) (hc : ∀ y ∈ b.drop ib, ∀ z ∈ a.drop ia, K y ≤ K z) : (out ++ b.drop ib ++ a.drop ia).Perm (a ++ b) ∧ Asc K (out ++ b.drop ib ++ a.drop ia) := by
 have h1 := h.addB hb (b.drop ib).length (by rw [List.take_length]; exact hc)
 rw [List.take_length] at h1
 have h2 := h1.addA ha (a.drop ia).length (by rw [List.take_length]; intro y _ z hz; rw [List.drop_of_length_le (by simp; exact a12 )] at hz; cases hz)
 rw [List.take_length] at h2
 refine ⟨?_, h2.sorted⟩
 have := h2.perm
 rwa [List.take_of_length_le (by simp; exact a12 ), List.take_of_length_le (by simp; exact a12 )] at this
theorem Mrg.allA (h : Mrg K a b out ia ib) (ha : Asc K a) (hb : Asc K b) (hc : ∀ y ∈ a.drop ia, ∀ z ∈ b.drop ib, K y ≤ K z) : (out ++ a.drop ia ++ b.drop ib).Perm (a ++ b) ∧ Asc K (out ++ a.drop ia ++ b.drop ib) := by
 obtain ⟨x, y⟩ := h.swap.all hb ha hc
 exact ⟨x.trans List.perm_append_comm, y⟩
structure Mrh (K : f9 → Int) (a b r : List f9) (na nb : Nat) : Prop where
 perm : r.Perm (a.drop na ++ b.drop nb)
 sorted : Asc K r
 high : ∀ x ∈ r, ∀ y, y ∈ a.take na ∨ y ∈ b.take nb → K y ≤ K x
variable {r : List f9} {na nb : Nat}
theorem Mrh.swap (h : Mrh K a b r na nb) : Mrh K b a r nb na := ⟨h.perm.trans List.perm_append_comm, h.sorted, fun x hx y hy => h.high x hx y hy.symm⟩
theorem X9 (l : List f9) {k n : Nat} (h : k ≤ n) : l.drop k = (l.take n).drop k ++ l.drop n := by
 have : (l.take n ++ l.drop n).drop k = _ := List.drop_append
 rw [List.take_append_drop] at this
 rw [this]
 by_cases hl : n ≤ l.length
 ·rw [List.length_take, Nat.min_eq_left hl, show k - n = 0 by exact Nat.le_antisymm (o5 _ (.k 1 c8 w9 .o) c8 w9 tt (sbZ (n8 _ _ (.k 1 c8 d5 .o) c8 d5 tt h))) (o5 _ .o w9 c8 tt ), List.drop_zero]
 ·rw [List.drop_of_length_le (l := l) (i := n) (by exact n8 _ _ (.k 1 i9 d5 .o) c8 d5 tt (Nat.lt_of_not_le hl))]; simp
theorem Mrh.addA (h : Mrh K a b r na nb) (ha : Asc K a) (k : Nat) (hk : k ≤ na) (hc : ∀ y ∈ (a.take na).drop k, ∀ z ∈ b.take nb, K z ≤ K y) : Mrh K a b ((a.take na).drop k ++ r) k nb := by
 refine ⟨?_, ?_, ?_⟩
 ·rw [X9 a hk, List.append_assoc]
  exact h.perm.append_left _
 ·exact List.pairwise_append.mpr ⟨(ha.take na).drop k, h.sorted, fun x hx y hy => h.high y hy x (.inl (List.mem_of_mem_drop hx))⟩
 ·intro x hx y hy
  have hta : ∀ {z}, z ∈ a.take k → z ∈ a.take na := fun hz => by
   rw [show a.take k = (a.take na).take k by rw [List.take_take, Nat.min_eq_left hk]] at hz
   exact List.mem_of_mem_take hz
  rcases List.mem_append.mp hx with hx | hx
  ·rcases hy with hy | hy
   ·have hy' : y ∈ (a.take na).take k := by rw [List.take_take, Nat.min_eq_left hk]; exact hy
    exact (ha.take na).cut k hy' hx
   ·exact hc x hx y hy
  ·exact h.high x hx y (hy.imp hta id)
theorem Mrh.addB (h : Mrh K a b r na nb) (hb : Asc K b) (k : Nat) (hk : k ≤ nb) (hc : ∀ y ∈ (b.take nb).drop k, ∀ z ∈ a.take na, K z ≤ K y) : Mrh K a b ((b.take nb).drop k ++ r) na k := (h.swap.addA hb k hk hc).swap
theorem Mrh.all (h : Mrh K a b r na nb) (ha : Asc K a) (hb : Asc K b) (hc : ∀ y ∈ a.take na, ∀ z ∈ b.take nb, K y ≤ K z) : (a.take na ++ b.take nb ++ r).Perm (a ++ b) ∧ Asc K (a.take na ++ b.take nb ++ r) := by
 have h1 := h.addB hb 0 (Nat.zero_le _) (by rw [List.drop_zero]; exact fun y hy z hz => hc z hz y hy)
 have h2 := h1.addA ha 0 (Nat.zero_le _) (by rw [List.take_zero]; intro _ _ z hz; cases hz)
 simp only [List.drop_zero] at h2
 rw [← List.append_assoc] at h2
 exact ⟨by simpa using h2.perm, h2.sorted⟩
theorem Mrh.allB (h : Mrh K a b r na nb) (ha : Asc K a) (hb : Asc K b) (hc : ∀ y ∈ b.take nb, ∀ z ∈ a.take na, K y ≤ K z) : (b.take nb ++ a.take na ++ r).Perm (a ++ b) ∧ Asc K (b.take nb ++ a.take na ++ r) := by
 obtain ⟨x, y⟩ := h.swap.all hb ha hc
 exact ⟨x.trans List.perm_append_comm, y⟩
end
structure Cx where
 M : Model
 A : Around
 E : Value → Shared → Prop
 s : Shared
 κ : SortKind
 S : f9 → Prop
 K : f9 → Int
 L : bK6 M A E s κ S K
abbrev SM := StateT SortSt Sem
def W (C : Cx) {α : Type} (m : SM α) (Q : α → SortSt → Prop) (st : SortSt) : Prop := PyProof.Rows.wpS C.M C.A C.E C.s m Q st
section
variable {C : Cx} {α β : Type} {Q : α → SortSt → Prop} {st st₀ : SortSt}
theorem h9 {a : α} (h : Q a st) : W C (pure a) Q st := wpS_pure h
theorem aZ7 {Q' : α → SortSt → Prop} {m : SM α} (h : W C m Q st) (hq : ∀ a st', Q a st' → Q' a st') : W C m Q' st := wpS_mono h hq
theorem K8 {m : SM β} {f : β → SM α} (h : W C m (fun a st' => W C (f a) Q st') st) : W C (m >>= f) Q st := wpS_bind h
theorem W6 {f : SortSt → SM α} (h : W C (f st) Q st) : W C (get >>= f) Q st := wpS_bind (wpS_get h)
theorem W5 {g : SortSt → SortSt} {f : PUnit → SM α} (h : W C (f ⟨⟩) Q (g st)) : W C (modify g >>= f) Q st := wpS_bind (wpS_modify h)
theorem ab9 {x : String} {f : Unit → SM α} (h : W C (f ()) Q st) : W C ((liftM (rule x) : SM Unit) >>= f) Q st := wpS_bind (wpS_lift (wpAny_rule ⟨rfl, h⟩))
theorem K1 {a : Array f9} {i : Nat} {x : f9} {f : f9 → SM α} (hx : a[i]? = some x) (h : W C (f x) Q st) : W C (elem' a i >>= f) Q st := wpS_bind (by rw [elem'_eq, hx]; exact wpS_pure h)
theorem G2 {a : Array f9} {i : Nat} {f : f9 → SM α} (hi : i < a.size) (h : ∀ x, a[i]? = some x → W C (f x) Q st) : W C (elem' a i >>= f) Q st := K1 (getElem?_pos a i hi) (h _ (getElem?_pos a i hi))
theorem bx9 {x y : f9} {f : Option Bool → SM α} (hx : C.S x) (hy : C.S y) (hk : PyProof.Rows.kindOf st = C.κ) (h : W C (f (some (decide (C.K x < C.K y)))) Q st) : W C (lt' x y >>= f) Q st := wpS_bind (C.L _ _ _ _ hx hy hk h)
theorem J7 {c : Prop} [Decidable c] {t e : SM α} (h1 : c → W C t Q st) (h2 : ¬ c → W C e Q st) : W C (if c then t else e) Q st := by
 split
 ·exact h1 ‹_›
 ·exact h2 ‹_›
theorem S9 {c : Prop} [Decidable c] {t e : SM α} (h1 : c → W C t Q st) (h2 : ¬ c → W C e Q st) : W C (if decide c = true then t else e) Q st := J7 (fun h => h1 (of_decide_eq_true h)) fun h => h2 fun q => h (decide_eq_true q)
theorem F2 {m n : Nat} {t e : SM α} (h1 : m = n → W C t Q st) (h2 : ¬ m = n → W C e Q st) : W C (if (m == n) = true then t else e) Q st := J7 (fun h => h1 (eq_of_beq h)) fun h => h2 fun q => h (beq_iff_eq.mpr q)
def SameG (st st' : SortSt) : Prop := ∃ g, st' = SortSt.mk' (PyProof.Rows.kindOf st) (arrOf st) (pendingOf st) g (failedOf st)
theorem SameG.refl (st : SortSt) : SameG st st := ⟨gallopOf st, rfl⟩
theorem SameG.set {st st' : SortSt} (h : SameG st st') (g : Nat) : SameG st (SortSt.mk' (PyProof.Rows.kindOf st') (arrOf st') (pendingOf st') g (failedOf st')) := h.elim fun _ e => e ▸ ⟨g, rfl⟩
theorem SameG.kind {st st' : SortSt} (h : SameG st st') : PyProof.Rows.kindOf st' = PyProof.Rows.kindOf st := h.elim fun _ e => e ▸ rfl
variable {R X Y Z T : Type}
def bK9 (B : Prop) (P : R → Prop) (J : X → Y → Z → Prop) : Option R × X × Y × Z × T → Prop
 | (some r, _) => P r
 | (none, x, y, z, _) => B ∧ J x y z
def Stp (G : SortSt → Prop) (B : Prop) (P : R → Prop) (J : X → Y → Z → Prop) : ForInStep (Option R × X × Y × Z × T) → SortSt → Prop
 | .done c, st => G st ∧ bK9 B P J c
 | .yield c, st => G st ∧ c.1 = none ∧ J c.2.1 c.2.2.1 c.2.2.2.1
theorem ac3 {f : Nat → Option R × X × Y × Z × T → SM (ForInStep (Option R × X × Y × Z × T))} {k : Option R × X × Y × Z × T → SM α} {n : Nat} {G : SortSt → Prop} (B : Prop) (P : R → Prop) (J : X → Y → Z → Prop) (μ : X → Y → Z → Nat) {x₀ : X} {y₀ : Y} {z₀ : Z} {t₀ : T}
  (sg : G st) (h0 : J x₀ y₀ z₀) (hn : μ x₀ y₀ z₀ ≤ n) (hμ : ∀ {x y z}, J x y z → 0 < μ x y z)
  (hs : ∀ i x y z t st, G st → J x y z → W C (f i (none, x, y, z, t)) (Stp G B P fun x' y' z' => J x' y' z' ∧ μ x' y' z' < μ x y z) st)
  (hr : ∀ r d st, G st → P r → W C (k (some r, d)) Q st)
  (hk : B → ∀ x y z t st, G st → J x y z → μ x y z < μ x₀ y₀ z₀ → W C (k (none, x, y, z, t)) Q st) : W C (forIn [0:n] (none, x₀, y₀, z₀, t₀) f >>= k) Q st := by
 refine wpS_bind (wpS_mono (wpS_forRange (I := fun i c st => G st ∧ c.1 = none ∧ J c.2.1 c.2.2.1 c.2.2.2.1 ∧ μ c.2.1 c.2.2.1 c.2.2.2.1 + i ≤ n ∧ μ c.2.1 c.2.2.1 c.2.2.2.1 ≤ μ x₀ y₀ z₀) (Q := fun c st => G st ∧ bK9 B P (fun x y z => J x y z ∧ μ x y z < μ x₀ y₀ z₀) c) ?_ ?_ ⟨sg, rfl, h0, hn, Nat.le_refl _⟩) fun c st' h => ?_)
 ·rintro i ⟨_, x, y, z, t⟩ st' - hi ⟨g, rfl, hj, h1, h2⟩
  refine wpS_mono (hs i x y z t st' g hj) fun r st'' h => ?_
  match r, h with
  | .done (some r, _), h => exact h
  | .done (none, d'), h => exact ⟨h.1, h.2.1, h.2.2.1, Nat.lt_of_lt_of_le h.2.2.2 h2⟩
  | .yield (_, d'), h => exact ⟨h.1, h.2.1, h.2.2.1, Nat.le_trans (Nat.le_of_eq (Nat.succ_add _ _).symm) (Nat.le_trans (Nat.add_le_add_right h.2.2.2 i) h1), Nat.le_of_lt (Nat.lt_of_lt_of_le h.2.2.2 h2)⟩
 ·rintro ⟨_, x, y, z, t⟩ st' ⟨g, rfl, hj, h1, h2⟩
  exact absurd (hμ hj) (Nat.not_lt.mpr (Nat.le_of_add_le_add_right (Nat.le_trans h1 (Nat.le_trans (Nat.le_max_right 0 n) (Nat.le_of_eq (Nat.zero_add _).symm)))))
 ·match c, h with
  | (some r, d), h => exact hr r d st' h.1 h.2
  | (none, x, y, z, t), h => exact hk h.2.1 x y z t st' h.1 h.2.2.1 h.2.2.2
end
section
variable {C : Cx} {α R D X Y : Type} {Q : α → SortSt → Prop} {st : SortSt}
def St1 (P J : D → SortSt → Prop) : ForInStep (Option R × D) → SortSt → Prop
 | .done c, st => c.1 = none ∧ P c.2 st
 | .yield c, st => c.1 = none ∧ J c.2 st
theorem ai5 {f : Nat → Option R × D → SM (ForInStep (Option R × D))} {k : Option R × D → SM α} {a n : Nat} {d₀ : D} (J : Nat → D → SortSt → Prop) (P : D → SortSt → Prop) (h0 : J a d₀ st) (he : ∀ d st, J (max a n) d st → P d st)
  (hs : ∀ i d st, a ≤ i → i < n → J i d st → W C (f i (none, d)) (St1 P (J (i + 1))) st) (hk : ∀ d st, P d st → W C (k (none, d)) Q st) : W C (forIn [a:n] (none, d₀) f >>= k) Q st := by
 refine wpS_bind (wpS_mono (wpS_forRange (I := fun i c st => c.1 = none ∧ J i c.2 st) (Q := fun c st => c.1 = none ∧ P c.2 st) ?_ (fun c st h => ⟨h.1, he _ _ h.2⟩) ⟨rfl, h0⟩) fun c st' h => ?_)
 ·rintro i ⟨_, d⟩ st' h1 h2 ⟨rfl, h⟩
  exact wpS_mono (hs i d st' h1 h2 h) fun r st'' h => by cases r <;> exact h
 ·obtain ⟨_, d⟩ := c
  obtain ⟨rfl, h⟩ := h
  exact hk d st' h
def St2 (P J : X → Y → SortSt → Prop) : ForInStep (Option R × X × Y) → SortSt → Prop := St1 (fun d => P d.1 d.2) fun d => J d.1 d.2
theorem by0 {f : Nat → Option R × X × Y → SM (ForInStep (Option R × X × Y))} {k : Option R × X × Y → SM α} {a n : Nat} {x₀ : X} {y₀ : Y} (J : Nat → X → Y → SortSt → Prop) (P : X → Y → SortSt → Prop) (h0 : J a x₀ y₀ st) (he : ∀ x y st, J (max a n) x y st → P x y st)
  (hs : ∀ i x y st, a ≤ i → i < n → J i x y st → W C (f i (none, x, y)) (St2 P (J (i + 1))) st) (hk : ∀ x y st, P x y st → W C (k (none, x, y)) Q st) : W C (forIn [a:n] (none, x₀, y₀) f >>= k) Q st :=
 ai5 (fun i d => J i d.1 d.2) (fun d => P d.1 d.2) h0 (fun _ _ h => he _ _ _ h) (fun i d st h1 h2 h => hs i d.1 d.2 st h1 h2 h) fun d st h => hk d.1 d.2 st h
def Sf (st : SortSt) (P J : X → Y → Prop) : ForInStep (Option R × X × Y) → SortSt → Prop
 | .done c, st' => st' = st ∧ c.1 = none ∧ P c.2.1 c.2.2
 | .yield c, st' => st' = st ∧ c.1 = none ∧ J c.2.1 c.2.2
theorem as8 {f : Nat → Option R × X × Y → SM (ForInStep (Option R × X × Y))} {k : Option R × X × Y → SM α} {a n : Nat} {x₀ : X} {y₀ : Y} (J : Nat → X → Y → Prop) (P : X → Y → Prop) (h0 : J a x₀ y₀) (he : ∀ x y, J (max a n) x y → P x y)
  (hs : ∀ i x y, a ≤ i → i < n → J i x y → W C (f i (none, x, y)) (Sf st P (J (i + 1))) st) (hk : ∀ x y, P x y → W C (k (none, x, y)) Q st) : W C (forIn [a:n] (none, x₀, y₀) f >>= k) Q st :=
 ai5 (fun i d st' => st' = st ∧ J i d.1 d.2) (fun d st' => st' = st ∧ P d.1 d.2) ⟨rfl, h0⟩ (fun _ _ h => ⟨h.1, he _ _ h.2⟩) (fun i d st' h1 h2 h => by cases h.1; exact aZ7 (hs i d.1 d.2 h1 h2 h.2) fun r st'' h => by cases r <;> exact ⟨h.2.1, h.1, h.2.2⟩) fun d st' h => by cases h.1; exact hk d.1 d.2 h.2
noncomputable def thr : Bool → Int → Int
 | true, x => x
 | false, x => x + 1
theorem bG4 {left : Bool} {key : f9} {arr : Array f9} {j : Nat} {f : Option Bool → SM α} (hk : C.S key) (hS : AllS C.S arr) (hst : PyProof.Rows.kindOf st = C.κ) (hi : j < arr.size)
  (h : W C (f (some (decide (kk C.K arr j < thr left (C.K key))))) Q st) :
  W C ((do let x ← elem' arr j; if left then lt' x key else return (← lt' key x).map (!·) : SM (Option Bool)) >>= f) Q st := by
 refine K8 (G2 hi fun x hx => ?_)
 have e : kk C.K arr j = C.K x := by unfold kk; rw [hx]
 rw [e] at h
 cases left with
 | true => exact C.L _ _ _ _ (hS _ _ hx) hk hst h
 | false =>
  refine bx9 hk (hS _ _ hx) hst (h9 ?_)
  have e : (!(decide (C.K key < C.K x))) = decide (C.K x < C.K key + 1) := by
   by_cases hc : C.K key < C.K x
   ·rw [decide_eq_true hc, decide_eq_false (by exact Int.not_lt.mpr (Int.add_one_le_of_lt hc))]; rfl
   ·rw [decide_eq_false hc, decide_eq_true (by exact Int.lt_add_one_of_le (Int.not_lt.mp hc))]; rfl
  show W C (f (some (!(decide (C.K key < C.K x))))) Q st
  rw [e]; exact h
structure Gp (bl : Nat → Prop) (n lo hi : Nat) : Prop where
 le : lo ≤ hi
 hn : hi ≤ n
 lw : ∀ i, i < lo → bl i
 hg : ∀ i, hi ≤ i → i < n → ¬ bl i
theorem be6 {left : Bool} {key : f9} {arr : Array f9} {base n hint : Nat} {Q : Option Nat → SortSt → Prop} {bl : Nat → Prop} [DecidablePred bl] (hh : hint < n) (mono : ∀ {i j}, i ≤ j → j < n → bl j → bl i)
  (bey : ∀ {β : Type} {i : Nat} {f : Option Bool → SM β} {Q : β → SortSt → Prop}, i < n → W C (f (some (decide (bl i)))) Q st → W C ((do let x ← elem' arr (base + i); if left then lt' x key else return (← lt' key x).map (!·) : SM (Option Bool)) >>= f) Q st)
  (h : ∀ k, Gp bl n k k → Q (some k) st) : W C (Z9 left key arr base n hint) Q st := by
 refine bey hh ?_
 dsimp -zeta -zetaHave only
 extract_lets +onlyGivenNames jp
 have hjp : ∀ l o lo hi, Gp bl n lo hi → W C (jp () l o lo hi) Q st := fun l o lo hi g =>
  as8 (fun x lo hi => Gp bl n lo hi ∧ hi + x ≤ n + lo) (fun lo hi => Gp bl n hi hi) ⟨g, Nat.le_trans g.hn (Nat.le_add_right ..)⟩ (fun lo hi h => by
    have e : lo = hi := by have := h.1.le; have := h.2; exact bW9 this ‹_›
    exact e ▸ h.1) (fun x lo hi _ hx h => J7 (fun (hge : lo ≥ hi) => h9 ⟨rfl, rfl, (show Gp bl n hi hi from Nat.le_antisymm h.1.le hge ▸ h.1)⟩) fun (hge : ¬ lo ≥ hi) => by
    have hl : lo + (hi - lo) / 2 < hi := by exact bW7 hge
    have hn := h.1.hn
    have h2 := h.2
    exact bey (Nat.lt_of_lt_of_le hl hn) (S9 (fun hm => h9 ⟨rfl, rfl, ⟨hl, hn, fun i hi' => mono (Nat.le_of_lt_succ hi') (Nat.lt_of_lt_of_le hl hn) hm, h.1.hg⟩, by dsimp only; exact l'5 _ _ _ _ _ (.k 1 (.add c8 d5) (.add e9 o7) .o) (.add c8 y0) (.add e9 (.add (.add o7 A9) k9)) tt h2⟩) fun hm => h9 ⟨rfl, rfl, ⟨Nat.le_add_right .., Nat.le_of_lt (Nat.lt_of_lt_of_le hl hn), h.1.lw, fun i h6 h7 hb => hm (mono h6 h7 hb)⟩, by dsimp only; exact l'5 _ _ _ _ _ (.k 1 (.add (.add c8 d5) k9) e9 (.k 1 (.add e9 o7) (.add A9 c8) .o)) (.add (.add c8 d5) I9) (.add A9 c8) tt hl h2⟩)) fun lo hi g => h9 (h _ g)
 refine S9 (fun hr => ?_) fun hr => ?_
 ·refine as8 (fun x l o => l < o ∧ x + 1 ≤ o ∧ hint + l < n ∧ bl (hint + l)) (fun l o => l < o ∧ hint + l < n ∧ bl (hint + l) ∧ (n ≤ hint + o ∨ ¬ bl (hint + o))) ⟨Nat.zero_lt_one, Nat.le_refl _, hh, hr⟩ (fun l o h => ⟨h.1, h.2.2.1, h.2.2.2, .inl (by have := h.2.1; exact bW4 this)⟩) (fun x l o _ hx h => J7 (fun (hge : o ≥ n - hint) => h9 ⟨rfl, rfl, h.1, h.2.2.1, h.2.2.2, .inl (show n ≤ hint + o by exact bW3 hge)⟩) fun (hge : ¬ o ≥ n - hint) => ?_) fun l o h => hjp l o (hint + l + 1) (hint + min o (n - hint)) ⟨?_, ?_, fun i hi => mono (Nat.le_of_lt_succ hi) h.2.1 h.2.2.1, fun i h6 h7 hb => h.2.2.2.elim (fun q => ?_) fun q => q (mono ?_ h7 hb)⟩
  ·have hlt : hint + o < n := by exact I0 _ _ _ _ (.k 1 i9 d5 (.k 1 (.add d5 e9) o7 .o)) (.add (.add e9 c8) k9) o7 tt (Nat.lt_of_not_le hge) (F1 (n8 _ _ (.k 1 i9 d5 .o) c8 d5 tt hh))
   refine bey hlt ?_
   dsimp only
   by_cases hm : bl (hint + o)
   ·rw [decide_eq_true hm]
    exact h9 ⟨rfl, rfl, by have := h.1; dsimp only; exact o5 _ .o i9 (.add (.mulL 2 c8) k9) tt , by have := h.2.1; dsimp only; exact n8 _ _ (.k 1 i9 d5 .o) (.add i9 k9) (.add (.mulL 2 d5) k9) tt this, hlt, hm⟩
   ·rw [decide_eq_false hm]
    exact h9 ⟨rfl, rfl, h.1, h.2.2.1, h.2.2.2, .inr hm⟩
  all_goals (have := h.1; have := h.2.1; (first | exact bW0 this ‹_› | exact bV9 hh | exact bV8 h6 hh q h7 | exact bV7 h6 h7))
 ·refine as8 (fun x l o => l < o ∧ x + 1 ≤ o ∧ l ≤ hint ∧ ¬ bl (hint - l)) (fun l o => l < o ∧ l ≤ hint ∧ ¬ bl (hint - l) ∧ (hint + 1 ≤ o ∨ (o ≤ hint ∧ bl (hint - o)))) ⟨Nat.zero_lt_one, Nat.le_refl _, Nat.zero_le _, hr⟩ (fun l o h => ⟨h.1, h.2.2.1, h.2.2.2, .inl (by have := h.2.1; exact bV6 this hh)⟩) (fun x l o _ hx h => J7 (fun (hge : o ≥ hint + 1) => h9 ⟨rfl, rfl, h.1, h.2.2.1, h.2.2.2, .inl hge⟩) fun (hge : ¬ o ≥ hint + 1) => ?_) fun l o h => hjp l o (hint + 1 - min o (hint + 1)) (hint - l) ⟨?_, ?_, fun i hi => h.2.2.2.elim (fun q => ?_) fun q => mono ?_ ?_ q.2, fun i h6 h7 hb => h.2.2.1 (mono h6 h7 hb)⟩
  ·have hlt : o ≤ hint := by exact n8 _ _ (.k 1 i9 y0 .o) c8 d5 tt (Nat.lt_of_not_le hge)
   exact bey (Nat.lt_of_le_of_lt (Nat.sub_le _ _) hh) (S9 (fun hm => h9 ⟨rfl, rfl, h.1, h.2.2.1, h.2.2.2, .inr ⟨hlt, hm⟩⟩) fun hm => h9 ⟨rfl, rfl, by have := h.1; dsimp only; exact o5 _ .o i9 (.add (.mulL 2 c8) k9) tt , by have := h.2.1; dsimp only; exact n8 _ _ (.k 1 i9 d5 .o) (.add i9 k9) (.add (.mulL 2 d5) k9) tt this, hlt, hm⟩)
  all_goals (have := h.1; have := h.2.1; (first | exact bV5 ‹_› | exact bV4 hh | exact (bV3 q hi).elim | exact bV2 hi | exact bV1 hh))
theorem aZ9 {left : Bool} {key : f9} {arr : Array f9} {base n hint : Nat} {f : Option Nat → SM α} (hk : C.S key) (hS : AllS C.S arr) (hst : PyProof.Rows.kindOf st = C.κ) (hsz : base + n ≤ arr.size) (hh : hint < n) (hs : SortedOn C.K arr base (base + n))
  (h : ∀ k, k ≤ n → (∀ i, i < k → kk C.K arr (base + i) < thr left (C.K key)) → (∀ i, k ≤ i → i < n → ¬ kk C.K arr (base + i) < thr left (C.K key)) → W C (f (some k)) Q st) : W C (Z9 left key arr base n hint >>= f) Q st :=
 K8 (be6 (bl := fun i => kk C.K arr (base + i) < thr left (C.K key)) hh (fun hij hj hb => Int.lt_of_le_of_lt (hs (base + _) (base + _) (Nat.le_add_right ..) (Nat.add_le_add_left hij _) (Nat.add_lt_add_left hj _)) hb) (fun hi h => bG4 hk hS hst (Nat.lt_of_lt_of_le (Nat.add_lt_add_left hi _) hsz) h) fun k g => h k g.hn g.lw g.hg)
end
section
variable {K : f9 → Int}
noncomputable def bd0 : Array f9 → Array f9 → StateT SortSt Sem (Array f9) := sortPriv% PySem.Builtin.mergeLo
noncomputable def bd1 : Array f9 → Array f9 → StateT SortSt Sem (Array f9) := sortPriv% PySem.Builtin.mergeHi
theorem A1 {a : Array f9} {n : Nat} {z : f9} : z ∈ a.toList.drop n ↔ ∃ i, a[n + i]? = some z := by
 rw [List.mem_iff_getElem?]
 simp only [List.getElem?_drop, Array.getElem?_toList]
theorem W8 {a : Array f9} {n k : Nat} {z : f9} : z ∈ (a.toList.drop n).take k ↔ ∃ i, i < k ∧ a[n + i]? = some z := by
 rw [List.mem_iff_getElem?]
 constructor
 ·rintro ⟨i, h⟩
  rw [List.getElem?_take] at h
  split at h
  ·rename_i hi; exact ⟨i, hi, by simpa [List.getElem?_drop] using h⟩
  ·cases h
 ·rintro ⟨i, hi, h⟩
  exact ⟨i, by rw [List.getElem?_take, if_pos hi]; simpa [List.getElem?_drop] using h⟩
theorem H0 {a : Array f9} {i : Nat} {x : f9} (h : a[i]? = some x) : kk K a i = K x := by unfold kk; rw [h]
theorem M9 {a : Array f9} {i : Nat} {x : f9} (h : a[i]? = some x) : i < a.size := by
 rw [Array.getElem?_eq_some_iff] at h; exact h.1
theorem N9 {a : Array f9} (h : Asc K a.toList) {i j : Nat} {x y : f9} (hij : i ≤ j) (hx : a[i]? = some x) (hy : a[j]? = some y) : K x ≤ K y := by
 by_cases e : i = j
 ·subst e; rw [hx] at hy; cases hy; exact Int.le_refl _
 ·have hi := M9 hx
  have hj := M9 hy
  have := List.pairwise_iff_getElem.mp h i j (by simpa using hi) (by simpa using hj) (by exact Or.elim (ac9 e) (fun u2 => (n8 _ _ (.k 1 i9 d5 .o) i9 d5 tt u2)) (fun u3 => (n8 _ _ (.k 2 c8 d5 (.k 1 y0 c8 .o)) i9 d5 tt hij u3)))
  have e1 : a.toList[i]'(by simpa using hi) = x := by
   have := (Array.getElem?_eq_some_iff.mp hx).2; simpa using this
  have e2 : a.toList[j]'(by simpa using hj) = y := by
   have := (Array.getElem?_eq_some_iff.mp hy).2; simpa using this
  rw [e1, e2] at this; exact this
theorem bh9 {a : Array f9} (h : Asc K a.toList) {lo hi : Nat} (hh : hi ≤ a.size) : SortedOn K a lo hi := fun i j _ hij hj => by
 have e1 : a[i]? = some a[i] := getElem?_pos a i (by exact I0 _ _ _ _ (.k 1 c8 d5 (.k 1 e9 o7 (.k 1 y0 e9 .o))) i9 o7 tt hij hh hj)
 have e2 : a[j]? = some a[j] := getElem?_pos a j (by exact z3 _ _ _ (.k 1 i9 d5 (.k 1 d5 e9 .o)) i9 e9 tt hj hh)
 rw [H0 e1, H0 e2]
 exact N9 h hij e1 e2
theorem ba4 {a : Array f9} {i : Nat} {x : f9} (h : a[i]? = some x) : (a.toList.drop i).take 1 = [x] := by
 have hi : i < a.toList.length := by have := M9 h; simpa using this
 have hx : a.toList[i] = x := by have := (Array.getElem?_eq_some_iff.mp h).2; simpa using this
 rw [List.drop_eq_getElem_cons hi, hx]; rfl
variable {a b out : Array f9} {ia ib : Nat}
theorem aN3 (h : Mrg K a.toList b.toList out.toList ia ib) (hb : Asc K b.toList) {y : f9} (hy : b[ib]? = some y) (hc : ∀ z ∈ a.toList.drop ia, K y ≤ K z) : Mrg K a.toList b.toList (out.push y).toList ia (ib + 1) := by
 have := h.addB hb 1 (by rw [ba4 hy]; intro w hw z hz; cases List.mem_singleton.mp hw; exact hc z hz)
 rw [ba4 hy] at this
 simpa using this
theorem bv8 (h : Mrg K a.toList b.toList out.toList ia ib) (ha : Asc K a.toList) {y : f9} (hy : a[ia]? = some y) (hc : ∀ z ∈ b.toList.drop ib, K y ≤ K z) : Mrg K a.toList b.toList (out.push y).toList (ia + 1) ib := (aN3 h.swap ha hy hc).swap
theorem aa1 (a : Array f9) (i k : Nat) : (a.extract i (i + k)).toList = (a.toList.drop i).take k := by
 simp [List.extract_eq_take_drop]
theorem N3 (a : Array f9) (i : Nat) : (a.extract i a.size).toList = a.toList.drop i := by
 simp [List.extract_eq_take_drop]
 rw [List.take_of_length_le (by simp)]
theorem bN2 (h : Mrg K a.toList b.toList out.toList ia ib) (ha : Asc K a.toList) (k : Nat) (hc : ∀ y ∈ (a.toList.drop ia).take k, ∀ z ∈ b.toList.drop ib, K y ≤ K z) : Mrg K a.toList b.toList (out ++ a.extract ia (ia + k)).toList (ia + k) ib := by
 rw [Array.toList_append, aa1]; exact h.addA ha k hc
theorem bN1 (h : Mrg K a.toList b.toList out.toList ia ib) (hb : Asc K b.toList) (k : Nat) (hc : ∀ y ∈ (b.toList.drop ib).take k, ∀ z ∈ a.toList.drop ia, K y ≤ K z) : Mrg K a.toList b.toList (out ++ b.extract ib (ib + k)).toList ia (ib + k) := by
 rw [Array.toList_append, aa1]; exact h.addB hb k hc
def Rs (K : f9 → Int) (a b r : Array f9) : Prop := r.toList.Perm (a.toList ++ b.toList) ∧ Asc K r.toList
theorem aC8 (h : Mrg K a.toList b.toList out.toList ia ib) (ha : Asc K a.toList) (hb : Asc K b.toList) (he : b.size ≤ ib ∨ a.size ≤ ia) : Rs K a b (out ++ a.extract ia a.size ++ b.extract ib b.size) := by
 unfold Rs
 rw [Array.toList_append, Array.toList_append, N3, N3]
 refine h.allA ha hb fun y hy z hz => ?_
 obtain ⟨i, hi⟩ := A1.mp hy
 obtain ⟨j, hj⟩ := A1.mp hz
 have := M9 hi; have := M9 hj
 (exact (a16 ‹_› he this).elim)
theorem aO2 (h : Mrg K a.toList b.toList out.toList ia ib) (ha : Asc K a.toList) (hb : Asc K b.toList) (hl : ∀ x ∈ a.toList.drop (a.size - 1), ∀ y ∈ b.toList, K y ≤ K x) (he : ia + 1 = a.size) : Rs K a b (out ++ b.extract ib b.size ++ a.extract ia a.size) := by
 unfold Rs
 rw [Array.toList_append, Array.toList_append, N3, N3]
 exact h.all ha hb fun y hy z hz => hl z (by rw [show a.size - 1 = ia by (exact a17 he)]; exact hz) y (List.mem_of_mem_drop hy)
theorem bA7 {k : Nat} {T : Int} (hlo : ∀ i, i < k → kk K a (ia + i) < T) : ∀ y ∈ (a.toList.drop ia).take k, K y < T := fun y hy => by
 obtain ⟨i, hi, h⟩ := W8.mp hy
 have := hlo i hi; rw [H0 h] at this; exact this
theorem bA8 {k : Nat} {T : Int} (hhi : ∀ i, k ≤ i → i < a.size - ia → ¬ kk K a (ia + i) < T) : ∀ z ∈ a.toList.drop (ia + k), T ≤ K z := fun z hz => by
 obtain ⟨i, h⟩ := A1.mp hz
 rw [Nat.add_assoc] at h
 have := hhi (k + i) (by exact a19 ) (by have := M9 h; exact a21 this)
 rw [H0 h] at this; exact Int.not_lt.mp this
end
section
variable {C : Cx} {α : Type} {Q : α → SortSt → Prop} {st : SortSt}
theorem bG2 {left : Bool} {key : f9} {arr : Array f9} {i : Nat} {f : Option Nat → SM α} (hk : C.S key) (hS : AllS C.S arr) (hst : PyProof.Rows.kindOf st = C.κ) (hi : i < arr.size) (ha : Asc C.K arr.toList)
  (h : ∀ k, k ≤ arr.size - i → (∀ y ∈ (arr.toList.drop i).take k, C.K y < thr left (C.K key)) → (∀ z ∈ arr.toList.drop (i + k), thr left (C.K key) ≤ C.K z) → W C (f (some k)) Q st) : W C (Z9 left key arr i (arr.size - i) 0 >>= f) Q st :=
 aZ9 hk hS hst (by exact z3 _ _ _ (.k 1 (.add c8 d5) e9 .o) (.add d5 c8) e9 tt (F1 (n8 _ _ (.k 1 i9 d5 .o) c8 d5 tt hi))) (by exact a24 hi) (bh9 ha (by exact z3 _ _ _ (.k 1 (.add c8 d5) e9 .o) (.add d5 c8) e9 tt (F1 (n8 _ _ (.k 1 i9 d5 .o) c8 d5 tt hi)))) fun k h1 h2 h3 => h k h1 (bA7 h2) (bA8 h3)
structure LoJ (C : Cx) (a b : Array f9) (out : Array f9) (ia ib : Nat) : Prop where
 m : Mrg C.K a.toList b.toList out.toList ia ib
 h1 : ia + 1 < a.size
 h2 : ib < b.size
theorem LoJ.lt {a b out : Array f9} {ia ib : Nat} (j : LoJ C a b out ia ib) : ia + ib < a.size + b.size := Nat.add_lt_add (Nat.lt_of_succ_lt j.h1) j.h2
theorem aH6 {a b : Array f9} {Q : Array f9 → SortSt → Prop} (hSa : AllS C.S a) (hSb : AllS C.S b) (hst : PyProof.Rows.kindOf st = C.κ) (ha1 : 1 ≤ a.size) (hb1 : 1 ≤ b.size)
  (ha : Asc C.K a.toList) (hb : Asc C.K b.toList) (h0 : ∀ x ∈ b.toList.take 1, ∀ z ∈ a.toList, C.K x ≤ C.K z) (hl : ∀ x ∈ a.toList.drop (a.size - 1), ∀ y ∈ b.toList, C.K y ≤ C.K x)
  (h : ∀ out st', Rs C.K a b out → SameG st st' → Q out st') : W C (bd0 a b) Q st := by
 refine ab9 (G2 hb1 fun x hx => ?_)
 have m0 : Mrg C.K a.toList b.toList (#[x] : Array f9).toList 0 1 := aN3 (out := #[]) ⟨.nil, .nil, fun z hz => absurd hz List.not_mem_nil⟩ hb hx fun z hz => h0 x (ba4 hx ▸ List.mem_singleton.mpr rfl) z hz
 refine F2 (fun e => h9 (h _ _ (aC8 m0 ha hb (.inl (Nat.le_of_eq e.symm))) (.refl st))) fun e0 => F2 (fun e => h9 (h _ _ (aO2 m0 ha hb hl e) (.refl st))) fun e1 => W6 ?_
 refine ac3 (G := SameG st) False (Rs C.K a b) (LoJ C a b) (fun _ i j => a.size + b.size - (i + j)) (.refl st) ⟨m0, Nat.lt_of_le_of_ne ha1 e1, Nat.lt_of_le_of_ne hb1 e0⟩ (Nat.sub_le _ _) (fun j => Nat.sub_pos_of_lt j.lt) (fun i out ia ib mg st' sg j => ?_) (fun r _ st' sg hr => h9 (h r st' hr sg)) (fun hf => hf.elim)
 refine ac3 (x₀ := out) (y₀ := ia) (z₀ := ib) (t₀ := (0, 0)) (G := SameG st) True (Rs C.K a b) (LoJ C a b) (fun _ i j => a.size + b.size - (i + j)) sg j (Nat.sub_le _ _) (fun j => Nat.sub_pos_of_lt j.lt) (fun i out ia ib mg st' sg j => ?_) (fun r _ st' sg hr => h9 ⟨sg, hr⟩) fun _ out1 ia1 ib1 ac st' sg j1 hd1 => ab9 (ac3 (x₀ := out1) (y₀ := ia1) (z₀ := ib1) (G := SameG st) True (Rs C.K a b) (LoJ C a b) (fun _ i j => a.size + b.size - (i + j)) sg j1 (Nat.sub_le _ _) (fun j => Nat.sub_pos_of_lt j.lt) (fun i out ia ib mg st' sg j => ?_) (fun r _ st' sg hr => h9 ⟨sg, hr⟩) fun _ out1 ia1 ib1 ac st' sg j2 hd2 => W5 (h9 ⟨sg.set _, rfl, j2, Nat.lt_trans hd2 hd1⟩))
 ·dsimp only
  refine G2 j.h2 fun y hy => G2 (Nat.lt_of_succ_lt j.h1) fun z hz => bx9 (hSb _ _ hy) (hSa _ _ hz) (sg.kind.trans hst) (S9 (fun hw => ?_) fun hw => ?_)
  ·have m2 := aN3 j.m hb hy fun q hq => (A1.mp hq).elim fun j hj => Int.le_trans (Int.le_of_lt hw) (N9 ha (Nat.le_add_right _ j) hz hj)
   refine K1 hy (F2 (fun e => h9 ⟨sg, aC8 m2 ha hb (.inl (Nat.le_of_eq e.symm))⟩) fun e => ?_)
   have hJ : LoJ C a b _ _ _ := ⟨m2, j.h1, Nat.lt_of_le_of_ne j.h2 e⟩
   have hd := Nat.sub_lt_sub_left j.lt (Nat.lt_succ_self (ia + ib))
   exact J7 (fun _ => h9 ⟨sg, trivial, hJ, hd⟩) fun _ => h9 ⟨sg, rfl, hJ, hd⟩
  ·have m2 := bv8 j.m ha hz fun q hq => (A1.mp hq).elim fun j hj => Int.le_trans (Int.not_lt.mp hw) (N9 hb (Nat.le_add_right _ j) hy hj)
   refine K1 hz (F2 (fun e => h9 ⟨sg, aO2 m2 ha hb hl e⟩) fun e => ?_)
   have hJ : LoJ C a b _ _ _ := ⟨m2, Nat.lt_of_le_of_ne j.h1 e, j.h2⟩
   have hd := Nat.sub_lt_sub_left j.lt (Nat.add_lt_add_right (Nat.lt_succ_self ia) ib)
   exact J7 (fun _ => h9 ⟨sg, trivial, hJ, hd⟩) fun _ => h9 ⟨sg, rfl, hJ, hd⟩
 ·extract_lets s0 o1 s1 i1 s2 j1 s3 g1 s4 ac1 bc1 j2 jp g2
  generalize hQ : Stp (SameG st) True (Rs C.K a b) (fun x' y' z' => LoJ C a b x' y' z' ∧ a.size + b.size - (y' + z') < a.size + b.size - (ia + ib)) = QQ
  have qd : ∀ {r d} {st'' : SortSt}, SameG st st'' → Rs C.K a b r → QQ (.done (some r, d)) st'' := fun g h => hQ ▸ ⟨g, h⟩
  have qn : ∀ {o i k d} {st'' : SortSt}, SameG st st'' → LoJ C a b o i k → ia + ib < i + k → QQ (.done (none, o, i, k, d)) st'' ∧ QQ (.yield (none, o, i, k, d)) st'' := fun g h h' => hQ ▸ ⟨⟨g, trivial, h, Nat.sub_lt_sub_left j.lt h'⟩, ⟨g, rfl, h, Nat.sub_lt_sub_left j.lt h'⟩⟩
  have hjp : ∀ g, W C (jp () g) QQ st' := fun g => by
   have sg := sg.set g
   refine W5 (G2 j.h2 fun key hkey => bG2 (hSb _ _ hkey) hSa (sg.kind.trans hst) (Nat.lt_of_succ_lt j.h1) ha fun k hk hlo hhi => ?_)
   have m2 := bN2 j.m ha k fun w hw z hz => (A1.mp hz).elim fun i hi => Int.le_trans (Int.le_of_lt_add_one (hlo w hw)) (N9 hb (Nat.le_add_right _ i) hkey hi)
   dsimp -zeta -zetaHave only
   extract_lets ac2 jp2 o2 i2
   have hjp2 : ∀ (o : Array f9) (i : Nat), Mrg C.K a.toList b.toList o.toList i ib → (∀ z ∈ a.toList.drop i, C.K key + 1 ≤ C.K z) → i + 1 < a.size → ia ≤ i → W C (jp2 () o i) QQ _ := fun o i m2 hB hi hge => by
    have m3 := aN3 m2 hb hkey fun z hz => Int.le_trans (Int.le_of_lt (Int.lt_succ _)) (hB z hz)
    refine K1 hkey (F2 (fun e => h9 (qd sg (aC8 m3 ha hb (.inl (Nat.le_of_eq e.symm))))) fun e3 => G2 (Nat.lt_of_succ_lt hi) fun xa hxa => bG2 (hSa _ _ hxa) hSb (sg.kind.trans hst) (Nat.lt_of_le_of_ne j.h2 e3) hb fun k1 hk1 hlo1 hhi1 => ?_)
    have m4 := bN1 m3 hb k1 fun w hw z hz => (A1.mp hz).elim fun i hi => Int.le_trans (Int.le_of_lt (hlo1 w hw)) (N9 ha (Nat.le_add_right _ i) hxa hi)
    dsimp -zeta -zetaHave only
    extract_lets bc2 i5 jp3 o4 j4
    have hjp3 : ∀ (o : Array f9) (j : Nat), Mrg C.K a.toList b.toList o.toList i j → (∀ z ∈ b.toList.drop j, C.K xa ≤ C.K z) → j < b.size → ib + 1 ≤ j → W C (jp3 () o j) QQ _ := fun o j m4 hA hj hjb => by
     have m5 := bv8 m4 ha hxa hA
     exact K1 hxa (F2 (fun e => h9 (qd sg (aO2 m5 ha hb hl e))) fun e5 => by
      have q := fun {d} => qn (d := d) sg ⟨m5, Nat.lt_of_le_of_ne hi e5, hj⟩ (Nat.add_lt_add_of_lt_of_le (Nat.lt_succ_of_le hge) (Nat.le_of_succ_le hjb))
      exact J7 (fun _ => h9 q.1) fun _ => h9 q.2)
    refine J7 (fun _ => F2 (fun e => h9 (qd sg (aC8 m4 ha hb (.inl (Nat.le_of_eq e.symm))))) fun e4 => hjp3 _ _ m4 hhi1 (Nat.lt_of_le_of_ne (Nat.le_trans (Nat.add_le_add_left hk1 _) (Nat.le_of_eq (Nat.add_sub_of_le j.h2))) e4) (Nat.le_add_right ..)) fun hk10 => ?_
    cases Nat.eq_zero_of_not_pos hk10
    exact hjp3 _ _ m3 hhi1 (Nat.lt_of_le_of_ne j.h2 e3) (Nat.le_refl _)
   refine J7 (fun _ => F2 (fun e => h9 (qd sg (aO2 m2 ha hb hl e))) fun e1 => F2 (fun e => h9 (qd sg (aC8 m2 ha hb (.inr (Nat.le_of_eq e.symm))))) fun e2 => hjp2 _ _ m2 hhi (Nat.lt_of_le_of_ne (Nat.lt_of_le_of_ne (Nat.le_trans (Nat.add_le_add_left hk _) (Nat.le_of_eq (Nat.add_sub_of_le (Nat.le_of_lt (Nat.lt_of_succ_lt j.h1))))) e2) e1) (Nat.le_add_right ..)) fun hk0 => ?_
   cases Nat.eq_zero_of_not_pos hk0
   exact hjp2 _ _ j.m hhi j.h1 (Nat.le_refl _)
  exact J7 (fun _ => hjp _) fun _ => hjp _
end
section
variable {K : f9 → Int} {a b out : Array f9} {na nb : Nat}
theorem E5 {a : Array f9} {n : Nat} {z : f9} : z ∈ a.toList.take n ↔ ∃ i, i < n ∧ a[i]? = some z := by
 have := W8 (a := a) (n := 0) (k := n) (z := z)
 simpa using this
theorem al1 {a : Array f9} {n k : Nat} {z : f9} : z ∈ (a.toList.take n).drop k ↔ ∃ i, k ≤ i ∧ i < n ∧ a[i]? = some z := by
 rw [List.mem_iff_getElem?]
 constructor
 ·rintro ⟨i, h⟩
  rw [List.getElem?_drop, List.getElem?_take] at h
  split at h
  ·rename_i hi; exact ⟨k + i, by exact a19 , hi, by simpa using h⟩
  ·cases h
 ·rintro ⟨i, h1, h2, h⟩
  exact ⟨i - k, by rw [List.getElem?_drop, List.getElem?_take, show k + (i - k) = i by exact a39 h1, if_pos h2]; simpa using h⟩
theorem td1 {a : Array f9} {n : Nat} {x : f9} (hn : 0 < n) (h : a[n - 1]? = some x) : (a.toList.take n).drop (n - 1) = [x] := by
 have hi := M9 h
 have hl : n - 1 < (a.toList.take n).length := by simp; exact a35 hi hn
 have hx : (a.toList.take n)[n - 1] = x := by
  have := (Array.getElem?_eq_some_iff.mp h).2; simpa using this
 rw [List.drop_eq_getElem_cons hl, hx, List.drop_of_length_le (by simp; exact a43 )]
theorem L2 (a : Array f9) (i n : Nat) : (a.extract i n).toList = (a.toList.take n).drop i := by
 simp [List.extract_eq_take_drop, List.drop_take]
theorem at4 (h : Mrh K a.toList b.toList out.reverse.toList na nb) (ha : Asc K a.toList) (hn : 0 < na) {y : f9} (hy : a[na - 1]? = some y) (hc : ∀ z ∈ b.toList.take nb, K z ≤ K y) : Mrh K a.toList b.toList (out.push y).reverse.toList (na - 1) nb := by
 have := h.addA ha (na - 1) (by exact n8 _ _ (.k 1 i9 d5 .o) c8 d5 tt (F1 (o5 _ (.k 1 (.add w9 k9) c8 .o) k9 c8 tt hn))) (by rw [td1 hn hy]; intro w hw z hz; cases List.mem_singleton.mp hw; exact hc z hz)
 rw [td1 hn hy] at this
 simpa using this
theorem bb1 (h : Mrh K a.toList b.toList out.reverse.toList na nb) (hb : Asc K b.toList) (hn : 0 < nb) {y : f9} (hy : b[nb - 1]? = some y) (hc : ∀ z ∈ a.toList.take na, K z ≤ K y) : Mrh K a.toList b.toList (out.push y).reverse.toList na (nb - 1) := (at4 h.swap hb hn hy hc).swap
theorem bv7 (h : Mrh K a.toList b.toList out.reverse.toList na nb) (ha : Asc K a.toList) (k : Nat) (hk : k ≤ na) (hc : ∀ y ∈ (a.toList.take na).drop k, ∀ z ∈ b.toList.take nb, K z ≤ K y) : Mrh K a.toList b.toList (out ++ (a.extract k na).reverse).reverse.toList k nb := by
 have e : (out ++ (a.extract k na).reverse).reverse.toList = (a.toList.take na).drop k ++ out.reverse.toList := by
  rw [← L2]; simp
 rw [e]
 exact h.addA ha k hk hc
theorem bG9 (h : Mrh K a.toList b.toList out.reverse.toList na nb) (hb : Asc K b.toList) (k : Nat) (hk : k ≤ nb) (hc : ∀ y ∈ (b.toList.take nb).drop k, ∀ z ∈ a.toList.take na, K z ≤ K y) : Mrh K a.toList b.toList (out ++ (b.extract k nb).reverse).reverse.toList na k := (bv7 h.swap hb k hk hc).swap
theorem aa2 (a : Array f9) (n : Nat) : (a.extract 0 n).toList = a.toList.take n := by rw [L2, List.drop_zero]
theorem az6 (h : Mrh K a.toList b.toList out.reverse.toList na nb) (ha : Asc K a.toList) (hb : Asc K b.toList) (he : na = 0 ∨ nb = 0) : Rs K a b (a.extract 0 na ++ b.extract 0 nb ++ out.reverse) := by
 unfold Rs
 rw [Array.toList_append, Array.toList_append, aa2, aa2]
 refine h.all ha hb fun y hy z hz => ?_
 rcases he with rfl | rfl
 ·simp at hy
 ·simp at hz
theorem at6 (h : Mrh K a.toList b.toList out.reverse.toList na nb) (ha : Asc K a.toList) (hb : Asc K b.toList) (h0 : ∀ x ∈ b.toList.take 1, ∀ z ∈ a.toList, K x ≤ K z) (he : nb = 1) : Rs K a b (b.extract 0 nb ++ a.extract 0 na ++ out.reverse) := by
 unfold Rs
 subst he
 rw [Array.toList_append, Array.toList_append, aa2, aa2]
 exact h.allB ha hb fun y hy z hz => h0 y hy z (List.mem_of_mem_take hz)
end
section
variable {C : Cx} {α : Type} {Q : α → SortSt → Prop} {st : SortSt}
theorem bG3 {left : Bool} {key : f9} {arr : Array f9} {n : Nat} {f : Option Nat → SM α} (hk : C.S key) (hS : AllS C.S arr) (hst : PyProof.Rows.kindOf st = C.κ) (hn : 0 < n) (hn' : n ≤ arr.size) (ha : Asc C.K arr.toList)
  (h : ∀ k, k ≤ n → (∀ z ∈ arr.toList.take k, C.K z < thr left (C.K key)) → (∀ y ∈ (arr.toList.take n).drop k, thr left (C.K key) ≤ C.K y) → W C (f (some k)) Q st) : W C (Z9 left key arr 0 n (n - 1) >>= f) Q st :=
 aZ9 hk hS hst (by exact n8 _ _ (.k 1 c8 d5 .o) (.add w9 c8) d5 tt hn') (by exact n8 _ _ (.k 1 i9 d5 .o) i9 d5 tt (F1 (o5 _ (.k 1 (.add w9 k9) c8 .o) k9 c8 tt hn))) (bh9 ha (by exact n8 _ _ (.k 1 c8 d5 .o) (.add w9 c8) d5 tt hn')) fun k h1 h2 h3 => h k h1 (fun z hz => (E5.mp hz).elim fun i q => by have := h2 i q.1; rw [Nat.zero_add, H0 q.2] at this; exact this) fun y hy => (al1.mp hy).elim fun i q => Int.not_lt.mp (by have := h3 i q.1 q.2.1; rw [Nat.zero_add, H0 q.2.2] at this; exact this)
structure HiJ (C : Cx) (a b : Array f9) (na nb : Nat) (out : Array f9) : Prop where
 m : Mrh C.K a.toList b.toList out.reverse.toList na nb
 h1 : 0 < na
 h2 : 1 < nb
 h3 : na ≤ a.size
 h4 : nb ≤ b.size
theorem aH7 {a b : Array f9} {Q : Array f9 → SortSt → Prop} (hSa : AllS C.S a) (hSb : AllS C.S b) (hst : PyProof.Rows.kindOf st = C.κ) (ha1 : 1 ≤ a.size) (hb1 : 1 ≤ b.size)
  (ha : Asc C.K a.toList) (hb : Asc C.K b.toList) (h0 : ∀ x ∈ b.toList.take 1, ∀ z ∈ a.toList, C.K x ≤ C.K z) (hl : ∀ x ∈ a.toList.drop (a.size - 1), ∀ y ∈ b.toList, C.K y ≤ C.K x)
  (h : ∀ out st', Rs C.K a b out → SameG st st' → Q out st') : W C (bd1 a b) Q st := by
 refine ab9 (G2 (Nat.sub_one_lt_of_lt ha1) fun x hx => ?_)
 have m0 : Mrh C.K a.toList b.toList (#[x] : Array f9).reverse.toList (a.size - 1) b.size := at4 (out := #[]) ⟨by simp, .nil, fun z hz => absurd hz List.not_mem_nil⟩ ha ha1 hx fun z hz => hl x (A1.mpr ⟨0, hx⟩) z (List.mem_of_mem_take hz)
 refine F2 (fun e => h9 (h _ _ (az6 m0 ha hb (.inl e)) (.refl st))) fun e0 => F2 (fun e => h9 (h _ _ (at6 m0 ha hb h0 e) (.refl st))) fun e1 => W6 ?_
 refine ac3 (G := SameG st) False (Rs C.K a b) (HiJ C a b) (fun i j _ => i + j) (.refl st) ⟨m0, Nat.pos_of_ne_zero e0, Nat.lt_of_le_of_ne hb1 (Ne.symm e1), Nat.sub_le _ _, Nat.le_refl _⟩ (Nat.add_le_add_right (Nat.sub_le _ _) _) (fun j => Nat.add_pos_left j.h1 _) (fun i na nb out mg st' sg j => ?_) (fun r _ st' sg hr => h9 (h r st' hr sg)) (fun hf => hf.elim)
 refine ac3 (x₀ := na) (y₀ := nb) (z₀ := out) (t₀ := (0, 0)) (G := SameG st) True (Rs C.K a b) (HiJ C a b) (fun i j _ => i + j) sg j (Nat.add_le_add j.h3 j.h4) (fun j => Nat.add_pos_left j.h1 _) (fun i na nb out mg st' sg j => ?_) (fun r _ st' sg hr => h9 ⟨sg, hr⟩) fun _ na1 nb1 out1 ac st' sg j1 hd1 => ab9 (ac3 (x₀ := na1) (y₀ := nb1) (z₀ := out1) (G := SameG st) True (Rs C.K a b) (HiJ C a b) (fun i j _ => i + j) sg j1 (Nat.add_le_add j1.h3 j1.h4) (fun j => Nat.add_pos_left j.h1 _) (fun i na nb out mg st' sg j => ?_) (fun r _ st' sg hr => h9 ⟨sg, hr⟩) fun _ out1 ia1 ib1 ac st' sg j2 hd2 => W5 (h9 ⟨sg.set _, rfl, j2, Nat.lt_trans hd2 hd1⟩))
 ·dsimp only
  have b0 : nb - 1 < b.size := Nat.lt_of_lt_of_le (Nat.sub_one_lt_of_lt j.h2) j.h4
  have a0 : na - 1 < a.size := Nat.lt_of_lt_of_le (Nat.sub_one_lt_of_lt j.h1) j.h3
  refine G2 b0 fun y hy => G2 a0 fun z hz => bx9 (hSb _ _ hy) (hSa _ _ hz) (sg.kind.trans hst) (S9 (fun hw => ?_) fun hw => ?_)
  ·have m2 := at4 j.m ha j.h1 hz fun q hq => (E5.mp hq).elim fun i hi => Int.le_trans (N9 hb (Nat.le_sub_one_of_lt hi.1) hi.2 hy) (Int.le_of_lt hw)
   refine K1 hz (F2 (fun e => h9 ⟨sg, az6 m2 ha hb (.inl e)⟩) fun e => ?_)
   have hJ : HiJ C a b _ _ _ := ⟨m2, Nat.pos_of_ne_zero e, j.h2, Nat.le_of_lt a0, j.h4⟩
   have hd := Nat.add_lt_add_right (Nat.sub_one_lt_of_lt j.h1) nb
   exact J7 (fun _ => h9 ⟨sg, trivial, hJ, hd⟩) fun _ => h9 ⟨sg, rfl, hJ, hd⟩
  ·have m2 := bb1 j.m hb (Nat.lt_of_succ_lt j.h2) hy fun q hq => (E5.mp hq).elim fun i hi => Int.le_trans (N9 ha (Nat.le_sub_one_of_lt hi.1) hi.2 hz) (Int.not_lt.mp hw)
   refine K1 hy (F2 (fun e => h9 ⟨sg, at6 m2 ha hb h0 e⟩) fun e => ?_)
   have hJ : HiJ C a b _ _ _ := ⟨m2, j.h1, Nat.lt_of_le_of_ne (Nat.le_sub_one_of_lt j.h2) (Ne.symm e), j.h3, Nat.le_of_lt b0⟩
   have hd := Nat.add_lt_add_left (Nat.sub_one_lt_of_lt j.h2) na
   exact J7 (fun _ => h9 ⟨sg, trivial, hJ, hd⟩) fun _ => h9 ⟨sg, rfl, hJ, hd⟩
 ·extract_lets s0 n1 s1 b1 s2 o1 s3 g1 s4 ac1 bc1 b2 jp g2
  generalize hQ : Stp (SameG st) True (Rs C.K a b) (fun x' y' z' => HiJ C a b x' y' z' ∧ x' + y' < na + nb) = QQ
  have qd : ∀ {r d} {st'' : SortSt}, SameG st st'' → Rs C.K a b r → QQ (.done (some r, d)) st'' := fun g h => hQ ▸ ⟨g, h⟩
  have qn : ∀ {o i k d} {st'' : SortSt}, SameG st st'' → HiJ C a b i k o → i + k < na + nb → QQ (.done (none, i, k, o, d)) st'' ∧ QQ (.yield (none, i, k, o, d)) st'' := fun g h h' => hQ ▸ ⟨⟨g, trivial, h, h'⟩, ⟨g, rfl, h, h'⟩⟩
  have b0 : nb - 1 < b.size := Nat.lt_of_lt_of_le (Nat.sub_one_lt_of_lt j.h2) j.h4
  have hjp : ∀ g, W C (jp () g) QQ st' := fun g => by
   have sg := sg.set g
   refine W5 (G2 b0 fun key hkey => bG3 (hSb _ _ hkey) hSa (sg.kind.trans hst) j.h1 j.h3 ha fun k hk hlo hhi => ?_)
   have m2 := bv7 j.m ha k hk fun w hw z hz => (E5.mp hz).elim fun i hi => Int.le_trans (N9 hb (Nat.le_sub_one_of_lt hi.1) hi.2 hkey) (Int.le_of_lt (hhi w hw))
   have hB1 : ∀ z ∈ a.toList.take k, C.K z ≤ C.K key := fun z hz => Int.le_of_lt_add_one (hlo z hz)
   dsimp -zeta -zetaHave only
   extract_lets kk2 ac2 jp2 o2 n2
   have hjp2 : ∀ (n : Nat) (o : Array f9), Mrh C.K a.toList b.toList o.reverse.toList n nb → (∀ z ∈ a.toList.take n, C.K z ≤ C.K key) → 0 < n → n ≤ na → W C (jp2 () n o) QQ _ := fun n o m2 hB hn hle => by
    have m3 := bb1 m2 hb (Nat.lt_of_succ_lt j.h2) hkey hB
    have a0 : n - 1 < a.size := Nat.lt_of_lt_of_le (Nat.sub_one_lt_of_lt hn) (Nat.le_trans hle j.h3)
    refine K1 hkey (F2 (fun e => h9 (qd sg (at6 m3 ha hb h0 e))) fun e3 => G2 a0 fun xa hxa => bG3 (hSa _ _ hxa) hSb (sg.kind.trans hst) (Nat.sub_pos_of_lt j.h2) (Nat.le_of_lt b0) hb fun k1 hk1 hlo1 hhi1 => ?_)
    have m4 := bG9 m3 hb k1 hk1 fun w hw z hz => (E5.mp hz).elim fun i hi => Int.le_trans (N9 ha (Nat.le_sub_one_of_lt hi.1) hi.2 hxa) (hhi1 w hw)
    have hA1 : ∀ z ∈ b.toList.take k1, C.K z ≤ C.K xa := fun z hz => Int.le_of_lt (hlo1 z hz)
    dsimp -zeta -zetaHave only
    extract_lets kk3 bc2 n5 jp3 o4 b4
    have hjp3 : ∀ (m : Nat) (o : Array f9), Mrh C.K a.toList b.toList o.reverse.toList n m → (∀ z ∈ b.toList.take m, C.K z ≤ C.K xa) → 1 < m → m ≤ nb - 1 → W C (jp3 () m o) QQ _ := fun m o m4 hA hm hle2 => by
     have m5 := at4 m4 ha hn hxa hA
     exact K1 hxa (F2 (fun e => h9 (qd sg (az6 m5 ha hb (.inl e)))) fun e5 => by
      have q := fun {d} => qn (d := d) sg ⟨m5, Nat.pos_of_ne_zero e5, hm, Nat.le_of_lt a0, Nat.le_trans hle2 (Nat.le_of_lt b0)⟩ (Nat.add_lt_add_of_lt_of_le (Nat.lt_of_lt_of_le (Nat.sub_one_lt_of_lt hn) hle) (Nat.le_trans hle2 (Nat.sub_le _ _)))
      exact J7 (fun _ => h9 q.1) fun _ => h9 q.2)
    refine J7 (fun _ => F2 (fun e => h9 (qd sg (at6 m4 ha hb h0 e))) fun e4 => F2 (fun e => h9 (qd sg (az6 m4 ha hb (.inr e)))) fun e6 => hjp3 _ _ m4 hA1 (Nat.lt_of_le_of_ne (Nat.pos_of_ne_zero e6) (Ne.symm e4)) hk1) fun hk10 => ?_
    have hk1z : k1 = nb - 1 := Nat.le_antisymm hk1 (Nat.le_of_sub_eq_zero (Nat.eq_zero_of_not_pos hk10))
    exact hjp3 _ _ m3 (show ∀ z ∈ b.toList.take (nb - 1), C.K z ≤ C.K xa from hk1z ▸ hA1) (Nat.lt_of_le_of_ne (Nat.le_sub_one_of_lt j.h2) (Ne.symm e3)) (Nat.le_refl _)
   refine J7 (fun _ => F2 (fun e => h9 (qd sg (az6 m2 ha hb (.inl e)))) fun e1 => hjp2 _ _ m2 hB1 (Nat.pos_of_ne_zero e1) hk) fun hk0 => ?_
   have hkz : k = na := Nat.le_antisymm hk (Nat.le_of_sub_eq_zero (Nat.eq_zero_of_not_pos hk0))
   exact hjp2 _ _ j.m (show ∀ z ∈ a.toList.take na, C.K z ≤ C.K key from hkz ▸ hB1) j.h1 (Nat.le_refl _)
  exact J7 (fun _ => hjp _) fun _ => hjp _
end
section
variable {κ : SortKind} {S : f9 → Prop} {K : f9 → Int}
noncomputable def J1 (arr merged : Array f9) (sa : Nat) : Array f9 := merged.toList.zipIdx.foldl (fun a (p : f9 × Nat) => a.setIfInBounds (sa + p.2) p.1) arr
theorem bb5 (sa : Nat) : ∀ (l : List f9) (n : Nat) (arr : Array f9), ((l.zipIdx n).foldl (fun a (p : f9 × Nat) => a.setIfInBounds (sa + p.2) p.1) arr).size = arr.size ∧
  ∀ i, ((l.zipIdx n).foldl (fun a (p : f9 × Nat) => a.setIfInBounds (sa + p.2) p.1) arr)[i]? = if sa + n ≤ i ∧ i < sa + n + l.length ∧ i < arr.size then l[i - (sa + n)]? else arr[i]?
 | [], n, arr => ⟨rfl, fun i => by rw [if_neg (by simp only [List.length_nil]; exact fun u1 => (f'3 _ _ _ (.k 1 (.add c8 d5) e9 (.k 1 D9 (.add (.add c8 d5) w9) .o)) tt (And.left u1) (And.left (And.right u1))))]; rfl⟩
 | x :: l, n, arr => by
  rw [List.zipIdx_cons, List.foldl_cons]
  obtain ⟨h1, h2⟩ := bb5 sa l (n + 1) (arr.setIfInBounds (sa + n) x)
  refine ⟨h1.trans (Array.size_setIfInBounds ..), fun i => ?_⟩
  rw [h2 i, Array.size_setIfInBounds, Array.getElem?_setIfInBounds]
  simp only [List.length_cons]
  by_cases hi : sa + n = i
  ·subst hi
   rw [if_neg (by exact fun u1 => (f'2 _ _ (.k 1 (.add c8 y0) (.add c8 d5) .o) tt (And.left u1))), if_pos rfl]
   by_cases hs : sa + n < arr.size
   ·rw [if_pos hs, if_pos ⟨by exact n8 _ _ .o (.add c8 d5) (.add c8 d5) tt , by exact z3 _ _ _ .o (.add (.add c8 d5) k9) (.add (.add c8 d5) D9) tt , hs⟩]; simp
   ·rw [if_neg hs, if_neg (by exact fun u1 => (f'3 _ _ _ (.k 1 c8 (.add d5 e9) (.k 1 (.add (.add d5 e9) k9) c8 .o)) tt (Nat.le_of_not_lt hs) (And.right (And.right u1))))]
    exact (Array.getElem?_eq_none (by exact z3 _ _ _ (.k 1 c8 (.add d5 e9) .o) c8 (.add d5 e9) tt (Nat.le_of_not_lt hs))).symm
  ·by_cases hc : sa + (n + 1) ≤ i ∧ i < sa + (n + 1) + l.length ∧ i < arr.size
   ·rw [if_pos hc, if_pos ⟨by exact z3 _ _ _ (.k 1 (.add c8 y0) e9 .o) (.add c8 d5) e9 tt (And.left hc), by exact I0 _ _ _ _ (.k 1 i9 (.add (.add d5 D9) o7) .o) i9 (.add (.add d5 e9) I9) tt (And.left (And.right hc)), hc.2.2⟩]
    rw [show i - (sa + n) = (i - (sa + (n + 1))) + 1 by (exact a50 hc)]; simp
   ·rw [if_neg hc, if_neg hi, if_neg (by exact fun u1 => (Or.elim (Decidable.not_and_iff_or_not.mp hc) (fun u2 => (Or.elim (ac9 hi) (fun u4 => (f'3 _ _ _ (.k 1 i9 (.add d5 D9) (.k 1 (.add (.add d5 e9) k9) c8 .o)) tt (Nat.lt_of_not_le u2) u4)) (fun u5 => (f'3 _ _ _ (.k 1 (.add c8 d5) e9 (.k 1 D9 (.add c8 d5) .o)) tt (And.left u1) u5)))) (fun u3 => (Or.elim (ac9 hi) (fun u6 => (Or.elim (Decidable.not_and_iff_or_not.mp u3) (fun u8 => (f'4 _ _ _ _ (.k 1 i9 (.add (.add d5 e9) I9) (.k 1 (.add (.add d5 D9) o7) c8 .o)) tt (And.left (And.right u1)) (Nat.le_of_not_lt u8))) (fun u9 => (f'2 _ _ (.k 1 i9 d5 (.k 1 d5 c8 .o)) tt (And.right (And.right u1)) (Nat.le_of_not_lt u9))))) (fun u7 => (f'3 _ _ _ (.k 1 (.add c8 d5) e9 (.k 1 D9 (.add c8 d5) .o)) tt (And.left u1) u7))))))]
theorem au0 (arr merged : Array f9) (sa i : Nat) (h : sa + merged.size ≤ arr.size) : (J1 arr merged sa)[i]? = if sa ≤ i ∧ i < sa + merged.size then merged[i - sa]? else arr[i]? := by
 have := (bb5 sa merged.toList 0 arr).2 i
 unfold J1
 rw [this]
 simp only [Nat.add_zero, Array.length_toList]
 by_cases hc : sa ≤ i ∧ i < sa + merged.size
 ·rw [if_pos hc, if_pos ⟨hc.1, hc.2, by exact I0 _ _ _ _ (.k 1 (.add c8 d5) e9 (.k 1 I9 (.add c8 d5) .o)) I9 e9 tt h (And.right hc)⟩]; simp
 ·rw [if_neg hc, if_neg (by exact fun u1 => (Or.elim (Decidable.not_and_iff_or_not.mp hc) (fun u2 => (f'2 _ _ (.k 1 c8 d5 (.k 1 y0 c8 .o)) tt (And.left u1) (Nat.lt_of_not_le u2))) (fun u3 => (f'3 _ _ _ (.k 1 i9 (.add d5 e9) (.k 1 (.add d5 e9) c8 .o)) tt (And.left (And.right u1)) (Nat.le_of_not_lt u3)))))]
theorem bb3 (arr merged : Array f9) (sa : Nat) (h : sa + merged.size ≤ arr.size) : (J1 arr merged sa).toList = arr.toList.take sa ++ (merged.toList ++ arr.toList.drop (sa + merged.size)) := by
 apply List.ext_getElem?
 intro i
 rw [Array.getElem?_toList, au0 _ _ _ _ h]
 by_cases h1 : i < sa
 ·rw [if_neg (by exact fun u1 => (f'2 _ _ (.k 1 i9 d5 (.k 1 d5 c8 .o)) tt h1 (And.left u1))), List.getElem?_append_left (by simp; exact z3 _ _ _ (.k 1 i9 d5 (.k 1 d5 e9 .o)) i9 e9 tt h1 (Z4 (z3 _ _ _ (.k 1 (.add c8 d5) e9 .o) c8 e9 tt h))), List.getElem?_take, if_pos h1]; simp
 ·rw [List.getElem?_append_right (by simp; exact a29 h1)]
  have e : (arr.toList.take sa).length = sa := by simp; exact a32 h
  rw [e]
  by_cases h2 : i < sa + merged.size
  ·rw [if_pos ⟨by exact a33 h1, h2⟩, List.getElem?_append_left (by simp; exact I0 _ _ _ _ (.k 1 i9 (.add d5 e9) (.k 1 (.add o7 d5) c8 .o)) I9 e9 tt h2 (F1 (n8 _ _ (.k 1 c8 d5 .o) c8 d5 tt (Nat.le_of_not_lt h1))))]; simp
  ·rw [if_neg (by exact fun u1 => (f'3 _ _ _ (.k 1 (.add c8 d5) e9 (.k 1 D9 (.add c8 d5) .o)) tt (Nat.le_of_not_lt h2) (And.right u1))), List.getElem?_append_right (by simp; exact a38 h2), List.getElem?_drop]
   simp only [Array.length_toList, Array.getElem?_toList]
   congr 1; exact a41 h2
structure SB (κ : SortKind) (a₀ : Array f9) (st : SortSt) : Prop where
 perm : (arrOf st).toList.Perm a₀.toList
 kind : PyProof.Rows.kindOf st = κ
 failed : failedOf st = none
variable {a₀ : Array f9}
theorem SB.size {st : SortSt} (h : SB κ a₀ st) : (arrOf st).size = a₀.size := by have := h.perm.length_eq; simpa using this
theorem SB.allS {st : SortSt} (h : SB κ a₀ st) (hS : AllS S a₀) : AllS S (arrOf st) := fun i x hx => by
 have hm : x ∈ (arrOf st).toList := by
  have := (Array.getElem?_eq_some_iff.mp hx).2
  rw [← this]; simp
 have hm' := h.perm.mem_iff.mp hm
 obtain ⟨j, hj, e⟩ := List.getElem_of_mem hm'
 refine hS j x ?_
 have hj' : j < a₀.size := by simpa using hj
 rw [getElem?_pos a₀ j hj']
 congr 1
theorem AllS.extract {a : Array f9} (h : AllS S a) (i j : Nat) : AllS S (a.extract i j) := fun k x hx => by
 rw [Array.getElem?_extract] at hx
 split at hx
 ·exact h _ _ hx
 ·cases hx
theorem as4 {a : Array f9} {i j : Nat} (h : SortedOn K a i j) (hj : j ≤ a.size) : Asc K (a.extract i j).toList := by
 refine List.pairwise_iff_getElem.mpr fun p q hp hq hpq => ?_
 have hp' : p < j - i := by have := hp; simp at this; exact a65 this
 have hq' : q < j - i := by have := hq; simp at this; exact a65 this
 have e1 : a[i + p]? = some (a.extract i j).toList[p] := by
  rw [getElem?_pos a (i + p) (by exact a66 hp' hj)]; congr 1; simp
 have e2 : a[i + q]? = some (a.extract i j).toList[q] := by
  rw [getElem?_pos a (i + q) (by exact a66 hq' hj)]; congr 1; simp
 have := h (i + p) (i + q) (by exact a19 ) (by exact z3 _ _ _ (.k 1 i9 d5 .o) (.add e9 c8) (.add e9 d5) tt hpq) (by exact a68 hq')
 rwa [H0 e1, H0 e2] at this
theorem ae6 {a : Array f9} {i j : Nat} {z : f9} : z ∈ (a.extract i j).toList ↔ ∃ p, i ≤ p ∧ p < j ∧ a[p]? = some z := by
 rw [L2]; exact al1
end
section
variable {C : Cx} {α : Type} {Q : α → SortSt → Prop} {st : SortSt} {a₀ : Array f9}
theorem ac0 {i j : Nat} {f : Option Bool → SM α} (hS : AllS C.S a₀) (B : SB C.κ a₀ st) (hi : i < a₀.size) (hj : j < a₀.size)
  (h : W C (f (some (decide (kk C.K (arrOf st) i < kk C.K (arrOf st) j)))) Q st) : W C (ltAt' i j >>= f) Q st := by
 have hS' := B.allS hS
 rw [← B.size] at hi hj
 rw [ltAt'_eq]
 refine K8 (W6 (G2 hi fun x hx => G2 hj fun y hy => ?_))
 rw [H0 hx, H0 hy] at h
 exact C.L _ _ _ _ (hS' _ _ hx) (hS' _ _ hy) B.kind h
end
section
variable {κ : SortKind} {K : f9 → Int} {a₀ : Array f9}
structure Frm (lo hi : Nat) (st st' : SortSt) : Prop where
 pend : pendingOf st' = pendingOf st
 out : ∀ j, j < lo ∨ hi ≤ j → (arrOf st')[j]? = (arrOf st)[j]?
theorem Frm.refl (lo hi : Nat) (st : SortSt) : Frm lo hi st st := ⟨rfl, fun _ _ => rfl⟩
theorem Frm.trans {lo hi : Nat} {a b c : SortSt} (x : Frm lo hi a b) (y : Frm lo hi b c) : Frm lo hi a c := ⟨y.pend.trans x.pend, fun j hj => (y.out j hj).trans (x.out j hj)⟩
theorem Frm.up {lo hi hi' : Nat} {a b : SortSt} (x : Frm lo hi a b) (h : hi ≤ hi') : Frm lo hi' a b := ⟨x.pend, fun j hj => x.out j (by exact Or.elim hj (fun u1 => (Or.inl (n8 _ _ (.k 1 i9 d5 .o) i9 d5 tt u1))) (fun u2 => (Or.inr (z3 _ _ _ (.k 1 c8 d5 (.k 1 d5 e9 .o)) c8 e9 tt h u2))))⟩
theorem SB.arr {st : SortSt} (B : SB κ a₀ st) {xs : Array f9} (hp : xs.Perm (arrOf st)) : SB κ a₀ (setArr st xs) := ⟨(Array.perm_iff_toList_perm.mp hp).trans B.perm, B.kind, B.failed⟩
theorem aS4 {xs : Array f9} {src d : Nat} (hs : src < xs.size) (hd : d ≤ src) (k : Nat) : kk K (bubble xs src d) k = if k = src - d then kk K xs src else if src - d < k ∧ k ≤ src then kk K xs (k - 1) else kk K xs k := by
 have e := getElem?_bubble hs d hd k
 unfold kk
 rw [e]
 repeat' split
 all_goals first | rfl | (exfalso; (first | lia | omega)) | simp_all
end
section
variable {κ : SortKind} {K : f9 → Int} {a a' : Array f9} {lo n x i j : Nat}
theorem aS3 {xs : Array f9} (hj : j ≤ xs.size) (k : Nat) : kk K (mirror xs i j ((j - i) / 2)) k = if i ≤ k ∧ k < j then kk K xs (i + j - 1 - k) else kk K xs k := by
 have e := getElem?_mirror_all (i := i) hj k
 by_cases hc : i ≤ k ∧ k < j
 ·rw [if_pos hc] at e ⊢; unfold kk; rw [e]
 ·rw [if_neg hc] at e ⊢; unfold kk; rw [e]
def Dec (K : f9 → Int) (a : Array f9) (lo hi : Nat) : Prop := ∀ i j, lo ≤ i → i ≤ j → j < hi → kk K a j ≤ kk K a i
theorem Dec.same (h : Dec K a lo n) (e : ∀ k, kk K a' k = kk K a k) : Dec K a' lo n := fun i j h1 h2 h3 => by rw [e, e]; exact h i j h1 h2 h3
theorem Dec.step (h : Dec K a lo (lo + x)) (hx : 1 ≤ x) (hl : kk K a (lo + x) ≤ kk K a (lo + x - 1)) : Dec K a lo (lo + (x + 1)) := fun i j h1 h2 h3 => by
 rcases Nat.lt_or_eq_of_le (Nat.le_of_lt_succ h3) with hj | rfl
 ·exact h i j h1 h2 hj
 ·rcases Nat.lt_or_eq_of_le h2 with hi | rfl
  ·exact Int.le_trans hl (h i (lo + x - 1) h1 (by (first | lia | omega)) (by (first | lia | omega)))
  ·exact Int.le_refl _
theorem bz3 (lo : Nat) : SortedOn K a lo (lo + 1) := fun i j h1 h2 h3 => by
 have : i = j := by exact Nat.le_antisymm (n8 _ _ (.k 1 c8 d5 .o) c8 d5 tt h2) (z3 _ _ _ (.k 1 i9 y0 (.k 1 d5 e9 .o)) c8 e9 tt h3 h1)
 subst this; exact Int.le_refl _
theorem bh8 (h : SortedOn K a lo (lo + x)) (hx : 1 ≤ x) (hl : kk K a (lo + x - 1) ≤ kk K a (lo + x)) : SortedOn K a lo (lo + (x + 1)) := fun i j h1 h2 h3 => by
 rcases Nat.lt_or_eq_of_le (Nat.le_of_lt_succ h3) with hj | rfl
 ·exact h i j h1 h2 hj
 ·rcases Nat.lt_or_eq_of_le h2 with hi | rfl
  ·exact Int.le_trans (h i (lo + x - 1) h1 (by (first | lia | omega)) (by (first | lia | omega))) hl
  ·exact Int.le_refl _
def Eqs (K : f9 → Int) (a : Array f9) (i j : Nat) : Prop := ∀ k, i ≤ k → k < j → kk K a k = kk K a (j - 1)
theorem aj9 (he : Eqs K a i j) (hk : ∀ k, kk K a' k = if i ≤ k ∧ k < j then kk K a (i + j - 1 - k) else kk K a k) (k : Nat) : kk K a' k = kk K a k := by
 rw [hk]; split
 ·rename_i h; rw [he k h.1 h.2, he _ (by exact a55 h) (by exact a60 h)]
 ·rfl
theorem ah7 : Eqs K a (j - 1) j := fun _ h1 h2 => congrArg _ (Nat.le_antisymm (Nat.le_sub_one_of_lt h2) h1)
theorem Eqs.ext (h : Eqs K a i j) (e : kk K a j = kk K a (j - 1)) : Eqs K a i (j + 1) := fun k h1 h2 => (Nat.lt_or_eq_of_le (Nat.le_of_lt_succ h2)).elim (fun q => (h k h1 q).trans e.symm) fun q => q ▸ rfl
theorem bB7 (hs : SortedOn K a lo (lo + n)) (hn : 1 ≤ n) (he : ¬ kk K a lo < kk K a (lo + n - 1)) : Eqs K a lo (lo + n) := fun k h1 h2 =>
 Int.le_antisymm (hs k _ h1 (by exact a56 h2) (by exact z3 _ _ _ (.k 1 i9 (.add d5 e9) .o) i9 (.add d5 e9) tt (F1 (n8 _ _ (.k 1 k9 c8 .o) k9 (.add d5 c8) tt hn)))) (Int.le_trans (Int.not_lt.mp he) (hs lo k (Nat.le_refl _) h1 h2))
theorem Eqs.dec (h : Eqs K a lo j) : Dec K a lo j := fun i k h1 h2 h3 => Int.le_of_eq ((h k (Nat.le_trans h1 h2) h3).trans (h i h1 (Nat.lt_of_le_of_lt h2 h3)).symm)
theorem bn3 (hd : Dec K a lo (lo + x)) (hk : ∀ k, kk K a' k = if lo ≤ k ∧ k < lo + x then kk K a (lo + (lo + x) - 1 - k) else kk K a k) : SortedOn K a' lo (lo + x) := fun i j h1 h2 h3 => by
 rw [hk, hk, if_pos (by exact And.intro (n8 _ _ (.k 1 c8 d5 .o) c8 d5 tt h1) (I0 _ _ _ _ (.k 1 c8 d5 (.k 1 y0 (.add e9 o7) .o)) i9 (.add e9 o7) tt h2 h3)), if_pos (by exact And.intro (z3 _ _ _ (.k 1 c8 d5 (.k 1 d5 e9 .o)) c8 e9 tt h1 h2) (z3 _ _ _ (.k 1 i9 (.add d5 e9) .o) i9 (.add d5 e9) tt h3))]; exact hd _ _ (by exact a62 h3) (by exact a63 h3 h2) (by exact a64 h1 h3)
end
section
variable {C : Cx} {α R : Type} {Q : α → SortSt → Prop} {st : SortSt} {a₀ : Array f9} {lo : Nat}
theorem aM2 {i j hi : Nat} {Q : PUnit → SortSt → Prop} (B : SB C.κ a₀ st) (hj : j ≤ a₀.size) (hi1 : lo ≤ i) (hj1 : j ≤ hi)
  (h : ∀ st', SB C.κ a₀ st' → Frm lo hi st st' → (∀ k, kk C.K (arrOf st') k = if i ≤ k ∧ k < j then kk C.K (arrOf st) (i + j - 1 - k) else kk C.K (arrOf st) k) → Q ⟨⟩ st') : W C (reverseSlice' i j) Q st := by
 rw [← B.size] at hj
 rw [reverseSlice'_eq]
 refine wpS_modify (h _ (B.arr (mirror_perm _ _ _ _)) ⟨rfl, fun k hk => ?_⟩ fun k => aS3 hj k)
 show (mirror (arrOf st) i j ((j - i) / 2))[k]? = _
 rw [getElem?_mirror_all hj, if_neg (by exact fun u1 => (Or.elim hk (fun u2 => (f'3 _ _ _ (.k 1 c8 d5 (.k 1 d5 e9 (.k 1 D9 c8 .o))) tt hi1 (And.left u1) u2)) (fun u3 => (f'3 _ _ _ (.k 1 c8 d5 (.k 1 D9 c8 (.k 1 d5 e9 .o))) tt hj1 (And.right u1) u3))))]
theorem bv5 {f : Nat → Option R × Nat → SM (ForInStep (Option R × Nat))} {k : Option R × Nat → SM α} {m nrem : Nat} (hm : 1 ≤ m) (hmn : m ≤ nrem) (hs : SortedOn C.K (arrOf st) lo (lo + m))
  (hf : ∀ x n Q, 1 ≤ n → n < nrem → (kk C.K (arrOf st) (lo + n) < kk C.K (arrOf st) (lo + n - 1) → Q (.done (none, n)) st) → (¬ kk C.K (arrOf st) (lo + n) < kk C.K (arrOf st) (lo + n - 1) → Q (.yield (none, n + 1)) st) → W C (f x (none, n)) Q st)
  (hk : ∀ n, m ≤ n → n ≤ nrem → SortedOn C.K (arrOf st) lo (lo + n) → (n = nrem ∨ kk C.K (arrOf st) (lo + n) < kk C.K (arrOf st) (lo + n - 1)) → W C (k (none, n)) Q st) : W C (forIn [m:nrem] (none, m) f >>= k) Q st :=
 ai5 (fun x n st' => st' = st ∧ n = x ∧ SortedOn C.K (arrOf st) lo (lo + x)) (fun n st' => st' = st ∧ m ≤ n ∧ n ≤ nrem ∧ SortedOn C.K (arrOf st) lo (lo + n) ∧ (n = nrem ∨ kk C.K (arrOf st) (lo + n) < kk C.K (arrOf st) (lo + n - 1))) ⟨rfl, rfl, hs⟩
  (fun n st' h => by obtain ⟨rfl, rfl, h⟩ := h; rw [Nat.max_eq_right hmn] at h ⊢; exact ⟨rfl, hmn, Nat.le_refl _, h, .inl rfl⟩)
  (fun x n st' h1 h2 h => by
   obtain ⟨rfl, rfl, h⟩ := h
   exact hf n n _ (Nat.le_trans hm h1) h2 (fun q => ⟨rfl, rfl, h1, Nat.le_of_lt h2, h, .inr q⟩) fun q => ⟨rfl, rfl, rfl, bh8 h (Nat.le_trans hm h1) (Int.not_lt.mp q)⟩)
  fun n st' h => by obtain ⟨rfl, h1, h2, h3, h4⟩ := h; exact hk n h1 h2 h3 h4
theorem bv4 {c : Prop} [Decidable c] {m : SM PUnit} {F : PUnit → SM α} (P : SortSt → Prop) (h1 : c → W C m (fun _ st' => P st') st) (h2 : ¬ c → P st) (hF : ∀ st', P st' → W C (F ⟨⟩) Q st') : W C (if c then m >>= F else F ⟨⟩) Q st :=
 J7 (fun h => K8 (aZ7 (h1 h) fun _ st' q => hF st' q)) fun h => hF st (h2 h)
structure DJ (C : Cx) (a₀ : Array f9) (lo : Nat) (st : SortSt) (x n z : Nat) (st' : SortSt) : Prop where
 b : SB C.κ a₀ st'
 e : n = x
 f : Frm lo (lo + x) st st'
 d : Dec C.K (arrOf st') lo (lo + x)
 q : Eqs C.K (arrOf st') (lo + x - (z + 1)) (lo + x)
 l : z + 1 ≤ x
theorem aD0 {nrem : Nat} {f : Option Nat → SM α} (hS : AllS C.S a₀) (B : SB C.κ a₀ st) (hn : lo + nrem ≤ a₀.size) (h1 : 1 ≤ nrem)
  (h : ∀ n st', SB C.κ a₀ st' → 1 ≤ n → n ≤ nrem → Frm lo (lo + n) st st' → SortedOn C.K (arrOf st') lo (lo + n) → W C (f (some n)) Q st') : W C (countRun' lo nrem >>= f) Q st := by
 have lt : ∀ {n}, n < nrem → lo + n < a₀.size := fun h => Nat.lt_of_lt_of_le (Nat.add_lt_add_left h _) hn
 have ltp : ∀ {n}, n < nrem → lo + n - 1 < a₀.size := fun h => Nat.lt_of_le_of_lt (Nat.sub_le _ _) (lt h)
 refine K8 (bv5 (Nat.le_refl 1) h1 (bz3 lo) (fun x n Q h1 h2 hd hy => ac0 hS B (lt h2) (ltp h2) (S9 (fun q => h9 (hd q)) fun q => h9 (hy q))) fun n hn1 hn2 hs hlt => F2 (fun e => h9 (h n st B hn1 hn2 (.refl _ _ _) hs)) fun e => ?_)
 have hn3 := Nat.lt_of_le_of_ne hn2 e
 have hlt := hlt.resolve_left e
 extract_lets +onlyGivenNames z1 z2 jp
 have hjp : ∀ st₁, SB C.κ a₀ st₁ → Frm lo (lo + n) st st₁ → Dec C.K (arrOf st₁) lo (lo + (n + 1)) → W C (jp ()) (fun a st' => W C (f a) Q st') st₁ := fun st₁ B₁ F₁ D₁ => by
  refine ab9 (by0 (DJ C a₀ lo st) (fun n' q st' => n + 1 ≤ n' ∧ n' ≤ nrem ∧ DJ C a₀ lo st n' n' q st') ⟨B₁, rfl, F₁.up (Nat.le_succ _), D₁, fun i q1 q2 => ?_, Nat.le_add_left ..⟩ (fun x q st' j => ?_) (fun x n' q st' hx1 hx j => ?_) fun x q st' hx => ?_)
  ·exact ah7 (j := lo + (n + 1)) i q1 q2
  ·have e := j.e
   rw [Nat.max_eq_right hn3] at e j
   subst e
   exact ⟨hn3, Nat.le_refl _, j⟩
  ·obtain rfl := j.e
   have p : 1 ≤ n' := Nat.le_trans (Nat.le_add_left 1 n) hx1
   refine ac0 hS j.b (lt hx) (ltp hx) (S9 (fun hl => ?_) fun hl => ac0 hS j.b (ltp hx) (lt hx) (S9 (fun hg => h9 ⟨rfl, hx1, Nat.le_of_lt hx, j⟩) fun hg => ?_))
   ·have D := j.d.step p (Int.le_of_lt hl)
    exact bv4 (DJ C a₀ lo st (n' + 1) (n' + 1) 0) (fun _ => aM2 j.b (Nat.le_of_lt (lt hx)) (Nat.le_sub_of_add_le (Nat.add_le_add_left j.l lo)) (Nat.le_refl _) fun st'' B'' F'' hk => ⟨B'', rfl, (j.f.trans F'').up (Nat.le_succ _), D.same (aj9 j.q hk), ah7, Nat.le_add_left ..⟩) (fun _ => ⟨j.b, rfl, j.f.up (Nat.le_succ _), D, ah7, Nat.le_add_left ..⟩) fun st' j => h9 ⟨rfl, j⟩
   ·have e : kk C.K (arrOf st') (lo + n') = kk C.K (arrOf st') (lo + n' - 1) := Int.le_antisymm (Int.not_lt.mp hg) (Int.not_lt.mp hl)
    exact h9 ⟨rfl, j.b, rfl, j.f.up (Nat.le_succ _), j.d.step p (Int.le_of_eq e), (Nat.succ_sub_succ (lo + n') (q + 1)).symm ▸ j.q.ext e, Nat.succ_le_succ j.l⟩
  ·obtain ⟨hx1, hx2, j⟩ := hx
   have p : 1 ≤ x := Nat.le_trans (Nat.le_add_left 1 n) hx1
   have hxs := Nat.le_trans (Nat.add_le_add_left hx2 lo) hn
   dsimp only
   refine bv4 (fun st' => SB C.κ a₀ st' ∧ Frm lo (lo + x) st st' ∧ Dec C.K (arrOf st') lo (lo + x)) (fun _ => aM2 j.b hxs (Nat.le_sub_of_add_le (Nat.add_le_add_left j.l lo)) (Nat.le_refl _) fun st'' B'' F'' hk => ⟨B'', j.f.trans F'', j.d.same (aj9 j.q hk)⟩) (fun _ => ⟨j.b, j.f, j.d⟩) fun st₃ h₃ => K8 (aM2 h₃.1 hxs (Nat.le_refl _) (Nat.le_refl _) fun st₄ B₄ F₄ hk₄ => bv5 p hx2 (bn3 h₃.2.2 hk₄) (fun x n Q h1 h2 hd hy => ac0 hS B₄ (lt h2) (ltp h2) (S9 (fun q => h9 (hd q)) fun q => h9 (hy q))) fun n' q1 q2 hs _ => h9 (h n' st₄ B₄ (Nat.le_trans p q1) q2 ((h₃.2.1.trans F₄).up (Nat.add_le_add_left q1 _)) hs))
 have dec : Eqs C.K (arrOf st) lo (lo + n) → Dec C.K (arrOf st) lo (lo + (n + 1)) := fun q => q.dec.step hn1 (Int.le_of_lt hlt)
 refine J7 (fun c2 => ac0 hS B (Nat.lt_of_le_of_lt (Nat.le_add_right ..) (lt hn3)) (ltp hn3) (S9 (fun _ => h9 (h n st B hn1 hn2 (.refl _ _ _) hs)) fun hr => K8 (aM2 B (Nat.le_of_lt (lt hn3)) (Nat.le_refl _) (Nat.le_refl _) fun st₁ B₁ F₁ hk₁ => ?_))) fun c2 => hjp st B (.refl _ _ _) (dec ?_)
 ·have E := bB7 hs hn1 hr
  exact hjp st₁ B₁ F₁ ((dec E).same (aj9 E hk₁))
 ·obtain rfl : n = 1 := by exact Nat.le_antisymm (o5 _ (.k 1 c8 k9 .o) c8 k9 tt (Nat.le_of_not_lt c2)) (o5 _ (.k 1 k9 c8 .o) k9 c8 tt hn1)
  exact ah7 (j := lo + 1)
end
section
variable {K : f9 → Int} {a b : Array f9} {lo mid hi : Nat}
theorem be5 (v : Int) (h1 : SortedOn K a lo mid) (h2 : SortedOn K a mid hi) (l : ∀ p, lo ≤ p → p < mid → kk K a p ≤ v) (r : ∀ p, mid ≤ p → p < hi → v ≤ kk K a p) : SortedOn K a lo hi := fun i j q1 q2 q3 =>
 (Nat.lt_or_ge j mid).elim (h1 i j q1 q2) fun g => (Nat.lt_or_ge i mid).elim (fun g' => Int.le_trans (l i q1 g') (r j g q3)) fun g' => h2 i j g' q2 q3
theorem O3 {i j : Nat} (h : j ≤ a.size) : (a.extract i j).size = j - i := by rw [Array.size_extract, Nat.min_eq_left h]
theorem aO7 {i j p : Nat} {z : f9} (hj : j ≤ a.size) (h : (a.extract i j)[p]? = some z) : i + p < j ∧ a[i + p]? = some z := by
 have hp := M9 h
 rw [O3 hj] at hp
 rw [Array.getElem?_extract, if_pos (by rw [Nat.min_eq_left hj]; exact hp)] at h
 exact ⟨Nat.add_lt_of_lt_sub' hp, h⟩
theorem aB5 {i : Nat} (h : b[i]? = a[i]?) : kk K b i = kk K a i := by unfold kk; rw [h]
theorem SortedOn.same (h : SortedOn K a lo hi) (he : ∀ j, lo ≤ j → j < hi → b[j]? = a[j]?) : SortedOn K b lo hi := fun i j h1 h2 h3 => by
 rw [aB5 (he i h1 (Nat.lt_of_le_of_lt h2 h3)), aB5 (he j (Nat.le_trans h1 h2) h3)]; exact h i j h1 h2 h3
theorem SortedOn.sub {lo' hi' : Nat} (h : SortedOn K a lo hi) (h1 : lo ≤ lo') (h2 : hi' ≤ hi) : SortedOn K a lo' hi' := fun i j q1 q2 q3 => h i j (Nat.le_trans h1 q1) q2 (Nat.lt_of_lt_of_le q3 h2)
end
section
variable {C : Cx} {α : Type} {Q : α → SortSt → Prop} {st : SortSt} {a₀ : Array f9}
theorem bG1 {st' : SortSt} {f : PUnit → SM α} (h : W C (f ⟨⟩) Q st') : W C (set st' >>= f) Q st := wpS_bind (by unfold PyProof.Rows.wpS; rw [StateT.run_set]; exact wpAny_pure ⟨rfl, h⟩)
theorem aZ8 {left : Bool} {key : f9} {arr : Array f9} {base n hint : Nat} {f : Option Nat → SM α} (hk : C.S key) (hS : AllS C.S arr) (hst : PyProof.Rows.kindOf st = C.κ) (hsz : base + n ≤ arr.size) (hh : hint < n) (hs : SortedOn C.K arr base (base + n))
  (h : ∀ k, k ≤ n → (∀ p, base ≤ p → p < base + k → kk C.K arr p < thr left (C.K key)) → (∀ p, base + k ≤ p → p < base + n → thr left (C.K key) ≤ kk C.K arr p) → W C (f (some k)) Q st) : W C (Z9 left key arr base n hint >>= f) Q st :=
 aZ9 hk hS hst hsz hh hs fun k h1 h2 h3 => h k h1 (fun p q1 q2 => by have := h2 (p - base) (by exact I0 _ _ _ _ (.k 1 i9 (.add d5 e9) (.k 1 (.add o7 d5) c8 .o)) I9 e9 tt q2 (F1 (n8 _ _ (.k 1 c8 d5 .o) c8 d5 tt q1))); rwa [Nat.add_sub_of_le q1] at this) fun p q1 q2 => by have := h3 (p - base) (by exact a72 q1) (by exact a73 q2 hh); rw [Nat.add_sub_of_le (by exact z3 _ _ _ (.k 1 (.add c8 d5) e9 .o) c8 e9 tt q1)] at this; exact Int.not_lt.mp this
theorem bz0 {arr merged : Array f9} {sa sb nb k nb' : Nat} {kv lv : Int} (hk : sa + k ≤ sb) (hsz : sb + nb ≤ arr.size) (hnb' : nb' ≤ nb)
  (h1 : SortedOn C.K arr sa sb) (h2 : SortedOn C.K arr sb (sb + nb)) (hR : Rs C.K (arr.extract (sa + k) sb) (arr.extract sb (sb + nb')) merged)
  (lk : ∀ p, sa ≤ p → p < sa + k → kk C.K arr p ≤ kv) (bx : ∀ z ∈ (arr.extract (sa + k) sb).toList, kv ≤ C.K z ∧ C.K z ≤ lv) (by' : ∀ z ∈ (arr.extract sb (sb + nb')).toList, kv ≤ C.K z ∧ C.K z ≤ lv) (hl : ∀ p, sb + nb' ≤ p → p < sb + nb → lv ≤ kk C.K arr p) (hkl : kv ≤ lv) :
  (J1 arr merged (sa + k)).toList.Perm arr.toList ∧ (∀ j, j < sa ∨ sb + nb ≤ j → (J1 arr merged (sa + k))[j]? = arr[j]?) ∧ SortedOn C.K (J1 arr merged (sa + k)) sa (sb + nb) := by
 have hb2 := Nat.le_trans (Nat.add_le_add_left hnb' sb) hsz
 have hb1 := Nat.le_trans (Nat.le_add_right sb nb') hb2
 have msz : sa + k + merged.size = sb + nb' := by
  have := hR.1.length_eq
  rw [List.length_append, Array.length_toList, Array.length_toList, Array.length_toList, O3 hb1, O3 hb2, Nat.add_sub_cancel_left] at this
  rw [this, ← Nat.add_assoc, Nat.add_sub_of_le hk]
 have hfit : sa + k + merged.size ≤ arr.size := msz ▸ hb2
 have out : ∀ j, j < sa + k ∨ sb + nb' ≤ j → (J1 arr merged (sa + k))[j]? = arr[j]? := fun j hj => by rw [au0 _ _ _ _ hfit, if_neg (by exact fun u1 => (Or.elim hj (fun u2 => (f'3 _ _ _ (.k 1 (.add c8 d5) e9 (.k 1 D9 (.add c8 d5) .o)) tt (And.left u1) u2)) (fun u3 => (f'6 _ _ _ _ _ _ (.k 1 (.add (.add c8 d5) e9) (.add o7 A9) (.k 1 s'5 (.add (.add c8 d5) e9) (.k 1 (.add o7 A9) v'5 .o))) tt (Nat.le_of_eq msz) (And.right u1) u3))))]
 have inn : ∀ p, sa + k ≤ p → p < sb + nb' → ∃ z, merged[p - (sa + k)]? = some z ∧ kk C.K (J1 arr merged (sa + k)) p = C.K z ∧ kv ≤ C.K z ∧ C.K z ≤ lv := fun p q1 q2 => by
  have hm : p - (sa + k) < merged.size := by exact l'7 _ _ _ _ _ _ _ (.k 1 (.add c8 d5) (.add (.add e9 o7) A9) (.k 1 s'5 (.add c8 d5) (.k 1 (.add v'6 (.add e9 o7)) v'5 .o))) s'6 A9 tt (Nat.le_of_eq (Eq.symm msz)) q2 (F1 (z3 _ _ _ (.k 1 (.add c8 d5) e9 .o) (.add c8 d5) e9 tt q1))
  have e := getElem?_pos merged (p - (sa + k)) hm
  refine ⟨_, e, ?_, (List.mem_append.mp (hR.1.mem_iff.mp (by simp))).elim (bx _) (by' _)⟩
  unfold kk; rw [au0 _ _ _ _ hfit, if_pos (by exact And.intro (z3 _ _ _ (.k 1 (.add c8 d5) e9 .o) (.add c8 d5) e9 tt q1) (l'6 _ _ _ _ _ _ (.k 1 (.add c8 d5) (.add (.add e9 o7) A9) (.k 1 s'5 (.add c8 d5) .o)) s'5 (.add (.add e9 o7) A9) tt (Nat.le_of_eq (Eq.symm msz)) q2)), e]
 refine ⟨?_, fun j hj => out j (by exact Or.elim hj (fun u1 => (Or.inl (z3 _ _ _ (.k 1 i9 d5 .o) i9 (.add d5 e9) tt u1))) (fun u2 => (Or.inr (I0 _ _ _ _ (.k 1 c8 d5 (.k 1 (.add e9 d5) o7 .o)) (.add e9 c8) o7 tt hnb' u2)))), be5 lv (mid := sb + nb') (be5 kv (mid := sa + k) ((h1.sub (Nat.le_refl _) hk).same fun j _ q2 => out j (.inl q2)) (fun x y q1 q2 q3 => ?_) (fun p q1 q2 => aB5 (out p (.inl q2)) ▸ lk p q1 q2) fun p q1 q2 => ?_) ((h2.sub (Nat.le_add_right ..) (Nat.le_refl _)).same fun j q1 _ => out j (.inr q1)) (fun p q1 q2 => ?_) fun p q1 q2 => aB5 (out p (.inr q1)) ▸ hl p q1 q2⟩
 ·rw [bb3 _ _ _ hfit]
  have e : arr.toList = arr.toList.take (sa + k) ++ (((arr.extract (sa + k) sb).toList ++ (arr.extract sb (sb + nb')).toList) ++ arr.toList.drop (sa + k + merged.size)) := by
   rw [L2, L2, msz, List.append_assoc, ← X9 arr.toList (Nat.le_add_right sb nb'), ← X9 arr.toList hk, List.take_append_drop]
  exact ((hR.1.append_right (arr.toList.drop (sa + k + merged.size))).append_left (arr.toList.take (sa + k))).trans (.of_eq e.symm)
 ·obtain ⟨z, e1, e2, _⟩ := inn x q1 (Nat.lt_of_le_of_lt q2 q3)
  obtain ⟨z', e3, e4, _⟩ := inn y (Nat.le_trans q1 q2) q3
  rw [e2, e4]; exact N9 hR.2 (Nat.sub_le_sub_right q2 _) e1 e3
 ·obtain ⟨z, _, e, h, _⟩ := inn p q1 q2
  exact e ▸ h
 ·rcases Nat.lt_or_ge p (sa + k) with g | g
  ·exact aB5 (out p (.inl g)) ▸ Int.le_trans (lk p q1 g) hkl
  ·obtain ⟨z, _, e, _, h⟩ := inn p g q2
   exact e ▸ h
theorem aH8 {i sa na sb nb pw pw' : Nat} {Q : Bool → SortSt → Prop} (hS : AllS C.S a₀) (B : SB C.κ a₀ st) (p1 : (pendingOf st)[i]? = some (sa, na, pw)) (p2 : (pendingOf st)[i + 1]? = some (sb, nb, pw'))
  (hna : 1 ≤ na) (hnb : 1 ≤ nb) (hab : sb = sa + na) (hsz : sb + nb ≤ a₀.size) (h1 : SortedOn C.K (arrOf st) sa sb) (h2 : SortedOn C.K (arrOf st) sb (sb + nb))
  (h : ∀ st', SB C.κ a₀ st' → pendingOf st' = ((pendingOf st).setIfInBounds i (sa, na + nb, pw)).eraseIdxIfInBounds (i + 1) → (∀ j, j < sa ∨ sb + nb ≤ j → (arrOf st')[j]? = (arrOf st)[j]?) → SortedOn C.K (arrOf st') sa (sb + nb) → Q true st') :
  W C (mergeAt' i) Q st := by
 have hS' := B.allS hS
 rw [← B.size] at hsz
 refine W6 ?_
 generalize hp' : ((pendingOf st).setIfInBounds i (sa, na + nb, pw)).eraseIdxIfInBounds (i + 1) = p' at h
 have e1 : (sortPriv% PySem.Builtin.SortState.pending) st = pendingOf st := rfl
 simp only [e1, p1, p2]
 have hsb := Nat.le_trans (Nat.le_add_right sb nb) hsz
 refine bG1 (G2 (Nat.lt_of_lt_of_le (Nat.lt_add_of_pos_right hnb) hsz) fun key hkey => aZ8 (hS' _ _ hkey) hS' B.kind (hab ▸ hsb) hna (hab ▸ h1) fun k hk hlo hhi => ?_)
 have ub : ∀ p, sb ≤ p → p < sb + nb → C.K key ≤ kk C.K (arrOf st) p := fun p q1 q2 => Int.le_trans (Int.le_of_eq (H0 hkey).symm) (h2 sb p (Nat.le_refl _) q1 q2)
 have lk : ∀ p, sa ≤ p → p < sa + k → kk C.K (arrOf st) p ≤ C.K key := fun p q1 q2 => Int.le_of_lt_add_one (hlo p q1 q2)
 have hka : sa + k ≤ sb := hab ▸ Nat.add_le_add_left hk sa
 refine F2 (fun c => h9 (h _ ⟨B.perm, B.kind, B.failed⟩ hp' (fun _ _ => rfl) (be5 (C.K key) h1 h2 (fun p q1 q2 => lk p q1 (by exact a76 c q2 hab)) ub))) fun c1 => ?_
 have el : sa + k + (na - k) - 1 = sb - 1 := by exact a78 hna hab c1
 have hl : sb - 1 < (arrOf st).size := by exact I0 _ _ _ _ (.k 1 (.add c8 d5) e9 (.k 1 I9 c8 .o)) I9 e9 tt hsz (F1 (z3 _ _ _ (.k 1 k9 c8 (.k 1 (.add d5 c8) e9 .o)) k9 e9 tt hna (Nat.le_of_eq (Eq.symm hab))))
 rw [el]
 refine G2 hl fun last hlast => aZ8 (hS' _ _ hlast) hS' B.kind hsz (Nat.sub_one_lt_of_lt hnb) h2 fun nb' hnb' hlo2 hhi2 => ?_
 have lu : ∀ p, sa ≤ p → p < sb → kk C.K (arrOf st) p ≤ C.K last := fun p q1 q2 => Int.le_trans (h1 p (sb - 1) q1 (Nat.le_sub_one_of_lt q2) (by exact n8 _ _ (.k 1 i9 d5 .o) i9 d5 tt (F1 (z3 _ _ _ (.k 1 k9 c8 (.k 1 (.add d5 c8) e9 .o)) k9 e9 tt hna (Nat.le_of_eq (Eq.symm hab)))))) (Int.le_of_eq (H0 hlast))
 refine F2 (fun c => h9 (h _ ⟨B.perm, B.kind, B.failed⟩ hp' (fun _ _ => rfl) (be5 (C.K last) h1 h2 lu fun p q1 q2 => hhi2 p (by exact z3 _ _ _ (.k 1 c8 d5 (.k 1 e9 w9 .o)) (.add c8 e9) d5 tt q1 (Nat.le_of_eq c)) q2))) fun c2 => ?_
 have hkey1 := hhi (sb - 1) (by exact a83 el c1) (by exact I0 _ _ _ _ (.k 1 c8 (.add d5 e9) (.k 1 I9 c8 .o)) I9 (.add d5 e9) tt (Nat.le_of_eq hab) (F1 (z3 _ _ _ (.k 1 k9 c8 (.k 1 (.add d5 c8) e9 .o)) k9 e9 tt hna (Nat.le_of_eq (Eq.symm hab)))))
 rw [H0 hlast] at hkey1
 have ax := as4 (h1.sub (Nat.le_add_right sa k) (Nat.le_refl _)) hsb
 have hn2 := Nat.le_trans (Nat.add_le_add_left hnb' sb) hsz
 have ay := as4 (h2.sub (Nat.le_refl _) (Nat.add_le_add_left hnb' sb)) hn2
 have bx : ∀ z ∈ ((arrOf st).extract (sa + k) sb).toList, C.K key + 1 ≤ C.K z ∧ C.K z ≤ C.K last := fun z hz => by
  obtain ⟨p, q1, q2, q3⟩ := ae6.mp hz
  exact ⟨Int.le_trans (hhi p q1 (hab ▸ q2)) (Int.le_of_eq (H0 q3)), Int.le_trans (Int.le_of_eq (H0 q3).symm) (lu p (Nat.le_trans (Nat.le_add_right sa k) q1) q2)⟩
 have by' : ∀ z ∈ ((arrOf st).extract sb (sb + nb')).toList, C.K key ≤ C.K z ∧ C.K z < C.K last := fun z hz => by
  obtain ⟨p, q1, q2, q3⟩ := ae6.mp hz
  exact ⟨Int.le_trans (ub p q1 (Nat.lt_of_lt_of_le q2 (Nat.add_le_add_left hnb' sb))) (Int.le_of_eq (H0 q3)), Int.lt_of_le_of_lt (Int.le_of_eq (H0 q3).symm) (hlo2 p q1 q2)⟩
 have key' := Int.le_of_lt (Int.lt_succ (C.K key))
 have fin : ∀ {merged g}, Rs C.K ((arrOf st).extract (sa + k) sb) ((arrOf st).extract sb (sb + nb')) merged → Q (failedOf st).isNone (SortSt.mk' (PyProof.Rows.kindOf st) (J1 (arrOf st) merged (sa + k)) p' g (failedOf st)) := fun {merged g} hR => by
  obtain ⟨t1, t2, t3⟩ := bz0 hka hsz hnb' h1 h2 hR lk (fun z hz => ⟨Int.le_trans key' (bx z hz).1, (bx z hz).2⟩) (fun z hz => ⟨(by' z hz).1, Int.le_of_lt (by' z hz).2⟩) hhi2 (Int.le_trans key' hkey1)
  have hh := h (SortSt.mk' (PyProof.Rows.kindOf st) (J1 (arrOf st) merged (sa + k)) p' g (failedOf st)) ⟨t1.trans B.perm, B.kind, B.failed⟩ rfl t2 t3
  rw [B.failed]; rw [B.failed] at hh; exact hh
 have c0 : ∀ x ∈ ((arrOf st).extract sb (sb + nb')).toList.take 1, ∀ z ∈ ((arrOf st).extract (sa + k) sb).toList, C.K x ≤ C.K z := fun x hx z hz => by
  obtain ⟨p, q1, q2⟩ := E5.mp hx
  have q2 := (aO7 hn2 q2).2
  rw [Nat.lt_one_iff.mp q1] at q2
  exact Option.some.inj (hkey.symm.trans q2) ▸ Int.le_trans key' (bx z hz).1
 have cl : ∀ x ∈ ((arrOf st).extract (sa + k) sb).toList.drop (((arrOf st).extract (sa + k) sb).size - 1), ∀ y ∈ ((arrOf st).extract sb (sb + nb')).toList, C.K y ≤ C.K x := fun x hx y hy => by
  obtain ⟨p, q2⟩ := A1.mp hx
  obtain ⟨q3, q4⟩ := aO7 hsb q2
  rw [O3 hsb] at q3 q4
  rw [show sa + k + (sb - (sa + k) - 1 + p) = sb - 1 by (exact a85 q3)] at q4
  exact Option.some.inj (hlast.symm.trans q4) ▸ Int.le_of_lt (by' y hy).2
 have zx : 1 ≤ ((arrOf st).extract (sa + k) sb).size := by rw [O3 hsb]; exact a86 hab hk c1
 have zy : 1 ≤ ((arrOf st).extract sb (sb + nb')).size := by rw [O3 hn2]; exact a87 c2
 exact J7 (fun _ => K8 (aH6 (hS'.extract _ _) (hS'.extract _ _) B.kind zx zy ax ay c0 cl fun merged st₂ hR sg => by
   obtain ⟨g, rfl⟩ := sg; subst hp'; exact W5 (W6 (h9 (fin hR))))) fun _ => K8 (aH7 (hS'.extract _ _) (hS'.extract _ _) B.kind zx zy ax ay c0 cl fun merged st₂ hR sg => by
   obtain ⟨g, rfl⟩ := sg; subst hp'; exact W5 (W6 (h9 (fin hR))))
end
section
variable {C : Cx} {α : Type} {Q : α → SortSt → Prop} {st : SortSt} {a₀ : Array f9} {K : f9 → Int}
theorem bA4 {a : Array f9} {lo l k : Nat} (hk : lo + k < a.size) (hl : l ≤ k) (hs : SortedOn K a lo (lo + k)) (h1 : ∀ i, i < l → kk K a (lo + i) ≤ kk K a (lo + k)) (h2 : ∀ i, l ≤ i → i < k → ¬ kk K a (lo + i) ≤ kk K a (lo + k)) :
  SortedOn K (bubble a (lo + k) (lo + k - (lo + l))) lo (lo + (k + 1)) := by
 have e : ∀ j, kk K (bubble a (lo + k) (lo + k - (lo + l))) j = if j = lo + l then kk K a (lo + k) else if lo + l < j ∧ j ≤ lo + k then kk K a (j - 1) else kk K a j := fun j => by
  rw [aS4 hk (Nat.sub_le _ _), Nat.sub_sub_self (Nat.add_le_add_left hl lo)]
 have e1 : ∀ j, j < lo + l → kk K (bubble a (lo + k) (lo + k - (lo + l))) j = kk K a j := fun j h => by rw [e, if_neg (by exact fun u1 => (f'3 _ _ _ (.k 1 i9 (.add d5 e9) (.k 1 (.add d5 e9) c8 .o)) tt h (Nat.le_of_eq (Eq.symm u1)))), if_neg (by exact fun u1 => (f'3 _ _ _ (.k 1 i9 (.add d5 e9) (.k 1 (.add (.add d5 e9) k9) c8 .o)) tt h (And.left u1)))]
 have e2 : ∀ j, lo + l < j → j ≤ lo + k → kk K (bubble a (lo + k) (lo + k - (lo + l))) j = kk K a (j - 1) := fun j h h' => by rw [e, if_neg (by exact fun u1 => (f'3 _ _ _ (.k 1 (.add (.add c8 d5) k9) e9 (.k 1 e9 (.add c8 d5) .o)) tt h (Nat.le_of_eq u1))), if_pos ⟨h, h'⟩]
 have g : ∀ j, lo + l < j → j ≤ lo + k → kk K a (lo + k) ≤ kk K a (j - 1) := fun j h h' => by
  have := h2 (j - 1 - lo) (by exact bX4 h) (by exact bX1 h h')
  rw [Nat.add_sub_of_le (by exact bJ9 h)] at this
  exact Int.le_of_lt (Int.not_le.mp this)
 have e0 : kk K (bubble a (lo + k) (lo + k - (lo + l))) (lo + l) = kk K a (lo + k) := by rw [e, if_pos rfl]
 refine be5 (kk K a (lo + k)) (mid := lo + l) (fun i j q1 q2 q3 => ?_) (fun i j q1 q2 q3 => ?_) (fun p q1 q2 => ?_) fun p q1 q2 => ?_
 ·rw [e1 i (Nat.lt_of_le_of_lt q2 q3), e1 j q3]; exact hs i j q1 q2 (Nat.lt_of_lt_of_le q3 (Nat.add_le_add_left hl lo))
 ·rcases Nat.lt_or_eq_of_le q1 with q1 | rfl
  ·rw [e2 i q1 (by exact I0 _ _ _ _ (.k 1 c8 d5 (.k 1 y0 (.add e9 I9) .o)) c8 (.add e9 o7) tt q2 q3), e2 j (by exact I0 _ _ _ _ (.k 1 (.add (.add c8 d5) k9) e9 (.k 1 e9 o7 .o)) (.add (.add c8 d5) k9) o7 tt q1 q2) (by exact bi5 q3)]; exact hs _ _ (by exact bJ9 q1) (by exact bW1 q1 q2) (by exact I0 _ _ _ _ (.k 1 i9 (.add d5 D9) (.k 1 I9 c8 .o)) I9 (.add d5 e9) tt q3 (F1 (I0 _ _ _ _ (.k 1 (.add (.add c8 d5) k9) e9 (.k 1 e9 o7 .o)) k9 o7 tt q1 q2)))
  ·rcases Nat.lt_or_eq_of_le q2 with q2 | rfl
   ·rw [e0, e2 j q2 (by exact bi5 q3)]; exact g j q2 (by exact bi5 q3)
   ·exact Int.le_refl _
 ·rw [e1 p q2]; have := h1 (p - lo) (by exact I0 _ _ _ _ (.k 1 i9 (.add d5 e9) (.k 1 (.add o7 d5) c8 .o)) I9 e9 tt q2 (F1 (n8 _ _ (.k 1 c8 d5 .o) c8 d5 tt q1))); rwa [Nat.add_sub_of_le q1] at this
 ·rcases Nat.lt_or_eq_of_le q1 with q1 | rfl
  ·rw [e2 p q1 (by exact bi5 q2)]; exact g p q1 (by exact bi5 q2)
  ·rw [e0]; exact Int.le_refl _
theorem ao8 {lo n ok : Nat} {f : Bool → SM α} (hS : AllS C.S a₀) (B : SB C.κ a₀ st) (hn : lo + n ≤ a₀.size) (h1 : 1 ≤ ok) (hok : ok ≤ n) (hs : SortedOn C.K (arrOf st) lo (lo + ok))
  (h : ∀ st', SB C.κ a₀ st' → Frm lo (lo + n) st st' → SortedOn C.K (arrOf st') lo (lo + n) → W C (f true) Q st') : W C (binarySort' lo n ok >>= f) Q st := by
 refine K8 (ai5 (fun k _ st' => SB C.κ a₀ st' ∧ Frm lo (lo + n) st st' ∧ SortedOn C.K (arrOf st') lo (lo + k)) (fun _ st' => SB C.κ a₀ st' ∧ Frm lo (lo + n) st st' ∧ SortedOn C.K (arrOf st') lo (lo + n)) ⟨B, .refl _ _ _, by rw [Nat.max_eq_left h1]; exact hs⟩ (fun _ st' h => by rw [Nat.max_eq_left h1, Nat.max_eq_right hok] at h; exact h) (fun k _ st' hk1 hk ⟨B', F', hs'⟩ => ?_) fun _ st' q => h9 (h st' q.1 q.2.1 q.2.2))
 have hkz : lo + k < a₀.size := Nat.lt_of_lt_of_le (Nat.add_lt_add_left hk lo) hn
 refine as8 (fun x l r => Gp (fun i => kk C.K (arrOf st') (lo + i) ≤ kk C.K (arrOf st') (lo + k)) k l r ∧ r + x ≤ k + l) (fun l r => Gp (fun i => kk C.K (arrOf st') (lo + i) ≤ kk C.K (arrOf st') (lo + k)) k l l) ⟨⟨Nat.zero_le _, Nat.le_refl _, fun i h => absurd h (Nat.not_lt_zero i), fun i h h' => absurd h' (Nat.not_lt.mpr h)⟩, Nat.le_refl _⟩ (fun l r h => ?_) (fun x l r _ hx h => J7 (fun hge => h9 ⟨rfl, rfl, ?_⟩) fun hge => ?_) fun l r g => ?_
 ·have e : l = r := Nat.le_antisymm h.1.le (by have := h.2; exact bX3 this)
  exact e ▸ h.1
 ·exact (Nat.le_antisymm h.1.le hge : l = r) ▸ h.1
 ·have hge : ¬ l ≥ r := hge
  have g := h.1
  have h2 := h.2
  have hl : (l + r) / 2 < r := by exact bX0 ‹_›
  have hm := Nat.lt_of_lt_of_le hl g.hn
  refine ac0 hS B' hkz (Nat.lt_trans (Nat.add_lt_add_left hm lo) hkz) (S9 (fun q => h9 ⟨rfl, rfl, ⟨by dsimp only; exact bW8 ‹_›, Nat.le_of_lt hm, g.lw, fun i q1 q2 q3 => Int.not_le.mpr q (Int.le_trans (hs' _ _ (Nat.le_add_right ..) (Nat.add_le_add_left q1 lo) (Nat.add_lt_add_left q2 lo)) q3)⟩, by dsimp only; exact l'5 _ _ _ _ _ (.k 1 i9 d5 (.k 1 (.add d5 e9) (.add o7 A9) .o)) (.add c8 D9) (.add o7 A9) tt hl h2⟩) fun q => h9 ⟨rfl, rfl, ⟨hl, g.hn, fun i q1 => Int.le_trans (hs' _ _ (Nat.le_add_right ..) (Nat.add_le_add_left (Nat.le_of_lt_succ q1) lo) (Nat.add_lt_add_left hm lo)) (Int.not_lt.mp q), g.hg⟩, by dsimp only; exact bW6 h2 hx⟩)
 ·have hks : lo + k < (arrOf st').size := B'.size ▸ hkz
  refine W5 (h9 ⟨rfl, B'.arr (bubble_perm _ _ _), F'.trans ⟨rfl, fun j hj => ?_⟩, bA4 hks g.hn hs' g.lw g.hg⟩)
  show (bubble (arrOf st') (lo + k) (lo + k - (lo + l)))[j]? = _
  have := g.hn
  rw [getElem?_bubble hks _ (Nat.sub_le _ _), if_neg (by exact bW5 hj hk), if_neg (by exact bW2 hj hk)]
end
section
variable {κ : SortKind} {S : f9 → Prop} {K : f9 → Int} {a₀ : Array f9}
def Runs (K : f9 → Int) (a : Array f9) : List (Nat × Nat × Nat) → Nat → Nat → Prop
 | [], lo, hi => lo = hi
 | (p, n, _) :: r, lo, hi => p = lo ∧ 1 ≤ n ∧ SortedOn K a lo (lo + n) ∧ Runs K a r (lo + n) hi
theorem Runs.le {a : Array f9} : ∀ {l : List (Nat × Nat × Nat)} {lo hi : Nat}, Runs K a l lo hi → lo + l.length ≤ hi
 | [], lo, hi, h => by have : lo = hi := h; simp; exact n8 _ _ (.k 1 c8 d5 .o) c8 d5 tt (Nat.le_of_eq this)
 | (p, n, _) :: r, lo, hi, ⟨_, h2, _, h4⟩ => by have := h4.le; simp; exact I0 _ _ _ _ (.k 1 (.add (.add c8 d5) e9) o7 (.k 1 k9 d5 .o)) (.add c8 D9) o7 tt this h2
theorem Runs.same {a b : Array f9} : ∀ {l : List (Nat × Nat × Nat)} {lo hi : Nat}, Runs K a l lo hi → (∀ j, lo ≤ j → j < hi → b[j]? = a[j]?) → Runs K b l lo hi
 | [], _, _, h, _ => h
 | (p, n, _) :: r, lo, hi, ⟨h1, h2, h3, h4⟩, he => by
  have := h4.le
  exact ⟨h1, h2, h3.same fun j q1 q2 => he j q1 (by exact l'5 _ _ _ _ _ (.k 1 (.add (.add c8 d5) e9) o7 (.k 1 s'4 (.add c8 d5) .o)) s'4 o7 tt this q2), h4.same fun j q1 q2 => he j (by exact z3 _ _ _ (.k 1 (.add c8 d5) e9 .o) c8 e9 tt q1) q2⟩
theorem Runs.append {a : Array f9} : ∀ {l₁ l₂ : List (Nat × Nat × Nat)} {lo hi : Nat}, Runs K a (l₁ ++ l₂) lo hi ↔ ∃ mid, Runs K a l₁ lo mid ∧ Runs K a l₂ mid hi
 | [], l₂, lo, hi => ⟨fun h => ⟨lo, rfl, h⟩, fun ⟨mid, h1, h2⟩ => by have : lo = mid := h1; subst this; exact h2⟩
 | (p, n, w) :: r, l₂, lo, hi => by
  have ih := @Runs.append a r l₂ (lo + n) hi
  constructor
  ·rintro ⟨h1, h2, h3, h4⟩
   obtain ⟨mid, h5, h6⟩ := ih.mp h4
   exact ⟨mid, ⟨h1, h2, h3, h5⟩, h6⟩
  ·rintro ⟨mid, ⟨h1, h2, h3, h5⟩, h6⟩
   exact ⟨h1, h2, h3, ih.mpr ⟨mid, h5, h6⟩⟩
theorem aG7 {α : Type} : ∀ {l : List α} {i : Nat} {x y : α}, l[i]? = some x → l[i + 1]? = some y → l = l.take i ++ x :: y :: l.drop (i + 2)
 | [], _, _, _, h, _ => by simp at h
 | [_], 0, _, _, _, h => by simp at h
 | a :: b :: l, 0, x, y, h1, h2 => by simp at h1 h2; subst h1; subst h2; simp
 | a :: l, i + 1, x, y, h1, h2 => by
  have := aG7 (l := l) (i := i) (by simpa using h1) (by simpa using h2)
  simp only [List.take_succ_cons, List.cons_append, List.drop_succ_cons]
  rw [← this]
theorem aq6 {p : Array (Nat × Nat × Nat)} {i sa na sb nb pw pw' : Nat} (p1 : p[i]? = some (sa, na, pw)) (p2 : p[i + 1]? = some (sb, nb, pw')) :
  ((p.setIfInBounds i (sa, na + nb, pw)).eraseIdxIfInBounds (i + 1)).toList = p.toList.take i ++ (sa, na + nb, pw) :: p.toList.drop (i + 2) := by
 have hi : i + 1 < p.size := by rw [Array.getElem?_eq_some_iff] at p2; exact p2.1
 have e : ((p.setIfInBounds i (sa, na + nb, pw)).eraseIdxIfInBounds (i + 1)).toList = (p.toList.set i (sa, na + nb, pw)).eraseIdx (i + 1) := by simp
 rw [e]
 have h := aG7 (l := p.toList) (i := i) (by simpa using p1) (by simpa using p2)
 have hl : (p.toList.take i).length = i := by simp; exact bN9 hi
 rw [h]
 rw [List.set_append_right _ _ (by exact n8 _ _ (.k 1 c8 d5 .o) c8 d5 tt (Nat.le_of_eq hl)), hl, Nat.sub_self, List.set_cons_zero, List.eraseIdx_append_of_length_le (by exact n8 _ _ (.k 1 c8 d5 .o) c8 y0 tt (Nat.le_of_eq hl)), hl, show i + 1 - i = 1 by (exact bK1 )]
 have e2 : List.take i (p.toList.take i ++ (sa, na, pw) :: (sb, nb, pw') :: p.toList.drop (i + 2)) = p.toList.take i := by
  rw [List.take_append_of_le_length (by exact n8 _ _ (.k 1 c8 d5 .o) c8 d5 tt (Nat.le_of_eq (Eq.symm hl))), List.take_take, Nat.min_self]
 have e3 : List.drop (i + 2) (p.toList.take i ++ (sa, na, pw) :: (sb, nb, pw') :: p.toList.drop (i + 2)) = p.toList.drop (i + 2) := by
  rw [List.drop_append, hl, show i + 2 - i = 2 by exact bN8 , List.drop_of_length_le (by exact n8 _ _ (.k 1 c8 d5 .o) c8 (.add d5 I7) tt (Nat.le_of_eq hl))]; rfl
 rw [e2, e3]; rfl
structure RS (κ : SortKind) (K : f9 → Int) (a₀ : Array f9) (lo : Nat) (st : SortSt) : Prop where
 b : SB κ a₀ st
 runs : Runs K (arrOf st) (pendingOf st).toList 0 lo
theorem Runs.modify {a : Array f9} (f : Nat × Nat × Nat → Nat × Nat × Nat) (hf : ∀ p n w, ∃ w', f (p, n, w) = (p, n, w')) : ∀ {l : List (Nat × Nat × Nat)} {lo hi : Nat} (i : Nat), Runs K a l lo hi → Runs K a (l.modify i f) lo hi
 | [], _, _, 0, h => by simpa using h
 | [], _, _, _ + 1, h => by simpa using h
 | (p, n, w) :: r, lo, hi, 0, h => by
  obtain ⟨w', e⟩ := hf p n w
  rw [List.modify_zero_cons, e]
  exact h
 | (p, n, w) :: r, lo, hi, i + 1, ⟨h1, h2, h3, h4⟩ => by
  rw [List.modify_succ_cons]
  exact ⟨h1, h2, h3, Runs.modify f hf i h4⟩
theorem bn0 {st : SortSt} {lo n : Nat} (R : RS κ K a₀ lo st) (hn : 1 ≤ n) (hs : SortedOn K (arrOf st) lo (lo + n)) : RS κ K a₀ (lo + n) (setPending st ((pendingOf st).push (lo, n, 0))) := by
 refine ⟨⟨R.b.perm, R.b.kind, R.b.failed⟩, ?_⟩
 show Runs K (arrOf st) ((pendingOf st).push (lo, n, 0)).toList 0 (lo + n)
 rw [Array.toList_push]
 exact Runs.append.mpr ⟨lo, R.runs, rfl, hn, hs, rfl⟩
theorem by8 {st : SortSt} {lo pw : Nat} (R : RS κ K a₀ lo st) : RS κ K a₀ lo (setPending st ((pendingOf st).modify ((pendingOf st).size - 1) fun (x : Nat × Nat × Nat) => (x.1, x.2.1, pw))) := by
 refine ⟨⟨R.b.perm, R.b.kind, R.b.failed⟩, ?_⟩
 show Runs K (arrOf st) ((pendingOf st).modify ((pendingOf st).size - 1) _).toList 0 lo
 rw [Array.toList_modify]
 exact Runs.modify _ (fun p n w => ⟨pw, rfl⟩) _ R.runs
theorem az4 {st st' : SortSt} {lo hi : Nat} (R : RS κ K a₀ lo st) (B' : SB κ a₀ st') (F : Frm lo hi st st') : RS κ K a₀ lo st' := ⟨B', by rw [F.pend]; exact R.runs.same fun j _ q => F.out j (.inl q)⟩
end
section
variable {C : Cx} {α : Type} {Q : α → SortSt → Prop} {st : SortSt} {a₀ : Array f9}
theorem al0 {i lo : Nat} {f : Bool → SM α} (hS : AllS C.S a₀) (R : RS C.κ C.K a₀ lo st) (hlo : lo ≤ a₀.size) (hi : i + 1 < (pendingOf st).size)
  (h : ∀ st', RS C.κ C.K a₀ lo st' → (pendingOf st').size + 1 = (pendingOf st).size → (∀ j, lo ≤ j → (arrOf st')[j]? = (arrOf st)[j]?) → W C (f true) Q st') : W C (mergeAt' i >>= f) Q st := by
 obtain ⟨⟨sa, na, pw⟩, p1⟩ : ∃ x, (pendingOf st)[i]? = some x := ⟨_, getElem?_pos (pendingOf st) i (Nat.lt_of_succ_lt hi)⟩
 obtain ⟨⟨sb, nb, pw'⟩, p2⟩ : ∃ x, (pendingOf st)[i + 1]? = some x := ⟨_, getElem?_pos (pendingOf st) (i + 1) hi⟩
 have hl := aG7 (l := (pendingOf st).toList) (i := i) (by simpa using p1) (by simpa using p2)
 have hR := R.runs
 rw [hl] at hR
 obtain ⟨mid, r1, rfl, r3, r4, rfl, r6, r7, r8⟩ := Runs.append.mp hR
 have hle := r8.le
 refine K8 (aH8 hS R.b p1 p2 r3 r6 rfl (by exact l'6 _ _ _ _ _ _ (.k 1 (.add (.add (.add c8 d5) e9) o7) A9 (.k 1 A9 v'5 .o)) (.add (.add c8 d5) e9) v'5 tt hle hlo) r4 r7 fun st' B' hp hout hs => h st' ⟨B', ?_⟩ ?_ fun j hj => hout j (by exact Or.inr (l'6 _ _ _ _ _ _ (.k 1 (.add (.add (.add c8 d5) e9) o7) A9 (.k 1 A9 v'5 .o)) (.add (.add c8 d5) e9) v'5 tt hle hj)))
 ·rw [hp, aq6 p1 p2]
  refine Runs.append.mpr ⟨_, r1.same fun j _ q2 => hout j (.inl q2), rfl, Nat.le_trans r3 (Nat.le_add_right ..), ?_, ?_⟩
  ·rw [← Nat.add_assoc]; exact hs
  ·rw [← Nat.add_assoc]; exact r8.same fun j q1 _ => hout j (.inr q1)
 ·have e := congrArg List.length (aq6 p1 p2)
  rw [← hp] at e
  simp only [Array.length_toList, List.length_append, List.length_cons, List.length_take, List.length_drop] at e
  (exact bN7 hi e)
theorem bA3 (c : Prop) [Decidable c] (m : Nat) : (if c then m - 1 else m) ≤ m := by split; exact Nat.sub_le ..; exact Nat.le_refl _
theorem ay8 {Q : Unit → SortSt → Prop} (hS : AllS C.S (arrOf st)) (B : SB C.κ (arrOf st) st) (hp : pendingOf st = #[]) (h2 : 2 ≤ (arrOf st).size)
  (h : ∀ st', SB C.κ (arrOf st) st' → SortedOn C.K (arrOf st') 0 (arrOf st).size → Q () st') : W C sortRuns' Q st := by
 refine W6 (ai5 (fun x lo st' => RS C.κ C.K (arrOf st) lo st' ∧ lo ≤ (arrOf st).size ∧ x ≤ lo) (fun _ st' => RS C.κ C.K (arrOf st) (arrOf st).size st') ⟨⟨B, by rw [hp]; rfl⟩, Nat.zero_le _, Nat.zero_le _⟩ (fun lo st' h => ?_) (fun x lo st' _ hx ⟨R', h3, h4⟩ => J7 (fun hge => h9 ⟨rfl, ?_⟩) fun hge => ?_) fun lo st' R' => ?_)
 ·have e : lo = (arrOf st).size := Nat.le_antisymm h.2.1 (Nat.le_trans (Nat.le_max_right ..) h.2.2)
  exact e ▸ h.1
 ·have e : lo = (arrOf st).size := Nat.le_antisymm h3 hge
  exact e ▸ R'
 ·have hlt : lo < (arrOf st).size := Nat.not_le.mp hge
  have hadd := Nat.add_sub_of_le h3
  refine aD0 hS R'.b (Nat.le_of_eq hadd) (Nat.sub_pos_of_lt hlt) fun n st₁ B₁ n1 n2 (F₁ : Frm lo (lo + n) st' st₁) (hs₁ : SortedOn C.K (arrOf st₁) lo (lo + n)) => ?_
  dsimp -zeta -zetaHave only
  extract_lets +onlyGivenNames z1 jp
  have hjp : ∀ n st₂, RS C.κ C.K (arrOf st) lo st₂ → 1 ≤ n → n ≤ (arrOf st).size - lo → SortedOn C.K (arrOf st₂) lo (lo + n) → W C (jp () n) (St1 (fun _ st' => RS C.κ C.K (arrOf st) (arrOf st).size st') fun lo st' => RS C.κ C.K (arrOf st) lo st' ∧ lo ≤ (arrOf st).size ∧ x + 1 ≤ lo) st₂ := fun n st₂ R₂ q1 q2 hs₂ => by
   have fin : ∀ {st₃}, RS C.κ C.K (arrOf st) lo st₃ → SortedOn C.K (arrOf st₃) lo (lo + n) → RS C.κ C.K (arrOf st) (lo + n) (setPending st₃ ((pendingOf st₃).push (lo, n, 0))) ∧ lo + n ≤ (arrOf st).size ∧ x + 1 ≤ lo + n := fun R hs => ⟨bn0 R q1 hs, hadd ▸ Nat.add_le_add_left q2 lo, Nat.add_le_add h4 q1⟩
   refine W6 ?_
   dsimp only
   generalize ((sortPriv% PySem.Builtin.SortState.pending) st₂).back? = o
   match o with
   | none => exact W5 (h9 ⟨rfl, fin R₂ hs₂⟩)
   | some (s1, n1, w) =>
    refine ai5 (fun _ _ st'' => RS C.κ C.K (arrOf st) lo st'' ∧ SortedOn C.K (arrOf st'') lo (lo + n)) (fun _ st'' => RS C.κ C.K (arrOf st) lo st'' ∧ SortedOn C.K (arrOf st'') lo (lo + n)) ⟨R₂, hs₂⟩ (fun _ _ h => h) (fun y _ st'' _ _ hr => W6 ?_) fun _ st₃ hr => W5 (W5 (h9 ⟨rfl, fin (by8 hr.1) hr.2⟩))
    generalize ho : (if ((sortPriv% PySem.Builtin.SortState.pending) st'').size > 1 then ((sortPriv% PySem.Builtin.SortState.pending) st'')[((sortPriv% PySem.Builtin.SortState.pending) st'').size - 2]? else none) = o
    match o, ho with
    | none, _ => exact h9 ⟨rfl, hr⟩
    | some (q1, q2, older), ho =>
     refine J7 (fun _ => h9 ⟨rfl, hr⟩) fun _ => al0 hS hr.1 h3 ?_ fun st₃ R₃ _ hk => h9 ⟨rfl, R₃, hr.2.same fun j j1 _ => hk j j1⟩
     split at ho
     ·exact Nat.lt_of_lt_of_le (Nat.lt_succ_self _) (Nat.le_of_eq (Nat.sub_add_cancel ‹_›))
     ·cases ho
  have R₁ := az4 R' B₁ F₁
  refine J7 (fun hm => ab9 (ao8 hS B₁ ?_ n1 (Nat.le_min.mpr ⟨n2, Nat.le_of_lt hm⟩) hs₁ fun st₂ B₂ F₂ hs₂ => hjp _ st₂ (az4 R₁ B₂ F₂) (Nat.le_trans n1 (Nat.le_min.mpr ⟨n2, Nat.le_of_lt hm⟩)) (Nat.min_le_left ..) hs₂)) fun hm => hjp n st₁ R₁ n1 n2 hs₁
  exact Nat.le_trans (Nat.add_le_add_left (Nat.min_le_left ..) lo) (Nat.le_of_eq hadd)
 ·have hle := R'.runs.le
  refine ai5 (fun x _ st'' => RS C.κ C.K (arrOf st) (arrOf st).size st'' ∧ (pendingOf st'').size + x ≤ (arrOf st).size) (fun _ st'' => RS C.κ C.K (arrOf st) (arrOf st).size st'' ∧ (pendingOf st'').size ≤ 1) ⟨R', by rw [Nat.zero_add, Array.length_toList] at hle; exact hle⟩ (fun _ st'' h => ⟨h.1, ?_⟩) (fun y _ st'' _ hy hr => W6 (J7 (fun hsz => h9 ⟨rfl, hr.1, hsz⟩) fun hsz => al0 hS hr.1 (Nat.le_refl _) (Nat.lt_of_le_of_lt (Nat.add_le_add_right (bA3 _ _) 1) ?_) fun st₃ R₃ hz₃ _ => h9 ⟨rfl, R₃, ?_⟩)) fun _ st'' hr => h9 (h st'' hr.1.b ?_)
  ·have := h.2
   rw [Nat.max_eq_right (Nat.zero_le _)] at this
   exact Nat.le_trans (Nat.le_of_add_le_add_right (Nat.le_trans this (Nat.le_of_eq (Nat.zero_add _).symm))) (Nat.zero_le 1)
  ·have hsz : ¬ (pendingOf st'').size ≤ 1 := hsz
   show (pendingOf st'').size - 2 + 1 < (pendingOf st'').size
   (exact bN6 ‹_›)
  ·have := hr.2
   (exact I0 _ _ _ _ (.k 1 i9 d5 (.k 1 (.add d5 e9) o7 .o)) (.add c8 D9) o7 tt (Nat.le_of_eq hz₃) this)
  ·have hr' := hr.1.runs
   have hz := hr.2
   match hl : (pendingOf st'').toList, hr' with
   | [], hr => exact absurd (show 0 = (arrOf st).size from hr) (by exact fun u1 => (f'1 _ (.k 1 I7 c8 (.k 1 c8 w9 .o)) tt h2 (Nat.le_of_eq (Eq.symm u1))))
   | [(p, n, w)], hr =>
    obtain ⟨_, _, r3, r4⟩ := hr
    have : 0 + n = (arrOf st).size := r4
    rw [this] at r3
    exact r3
   | _ :: _ :: _, _ => have := congrArg List.length hl; rw [Array.length_toList] at this; rw [this] at hz; exact absurd hz (Nat.not_le.mpr (Nat.succ_lt_succ (Nat.succ_pos _)))
end
abbrev J6 := List Nat × Int
structure SWO (lo : J6 → J6 → Bool) : Prop where
 irrefl : ∀ a, lo a a = false
 trans : ∀ a b c, lo a b = true → lo b c = true → lo a c = true
 neg : ∀ a b c, lo a c = true → lo a b = true ∨ lo b c = true
noncomputable def at8 (lo : J6 → J6 → Bool) (rs : List J6) (r : J6) : Nat := (rs.filter fun q => lo q r).length
theorem ad2 {p q : J6 → Bool} : ∀ (l : List J6), (∀ x ∈ l, p x = true → q x = true) → (l.filter p).length ≤ (l.filter q).length
 | [], _ => by simp
 | a :: l, h => by
  have ih := ad2 l fun x hx => h x (List.mem_cons_of_mem _ hx)
  have ha := h a (List.mem_cons_self ..)
  rw [List.filter_cons, List.filter_cons]
  by_cases hp : p a = true
  ·rw [if_pos hp, if_pos (ha hp)]; simp; exact ih
  ·rw [if_neg hp]; split <;> simp <;> (first | exact n8 _ _ (.k 1 c8 d5 .o) c8 y0 tt ih | exact ih)
theorem ar3 {p q : J6 → Bool} : ∀ (l : List J6), (∀ x ∈ l, p x = true → q x = true) → (∃ x ∈ l, p x = false ∧ q x = true) → (l.filter p).length < (l.filter q).length
 | [], _, ⟨_, hx, _⟩ => by cases hx
 | a :: l, h, ⟨x, hx, h1, h2⟩ => by
  have hl := fun x hx => h x (List.mem_cons_of_mem a hx)
  have ha := h a (List.mem_cons_self ..)
  rw [List.filter_cons, List.filter_cons]
  rcases List.mem_cons.mp hx with rfl | hx
  ·have ih := ad2 l hl
   rw [h1, h2]; simp; exact n8 _ _ (.k 1 c8 d5 .o) i9 y0 tt ih
  ·have ih := ar3 l hl ⟨x, hx, h1, h2⟩
   by_cases hp : p a = true
   ·rw [if_pos hp, if_pos (ha hp)]; simp; exact ih
   ·rw [if_neg hp]; split <;> simp <;> (first | exact n8 _ _ (.k 1 i9 d5 .o) i9 y0 tt ih | exact ih)
theorem aN2 {lo : J6 → J6 → Bool} (W : SWO lo) {rs : List J6} {a b : J6} (ha : a ∈ rs) : lo a b = true ↔ at8 lo rs a < at8 lo rs b := by
 constructor
 ·intro h
  exact ar3 rs (fun x _ hx => W.trans x a b hx h) ⟨a, ha, W.irrefl a, h⟩
 ·intro h
  cases hc : lo a b with
  | true => rfl
  | false =>
   have : at8 lo rs b ≤ at8 lo rs a := ad2 rs fun x _ hx => by
    rcases W.neg x a b hx with q | q
    ·exact q
    ·rw [hc] at q; cases q
   (exact (f'2 _ _ (.k 1 i9 d5 (.k 1 d5 c8 .o)) tt h this).elim)
section
variable {M : Model} {A : Around} {E : Value → Shared → Prop} {s : Shared} {κ : SortKind}
open Classical in
noncomputable def M1 (J : f9 → J6 → Prop) (x : f9) : J6 := if h : ∃ r, J x r then Classical.choose h else ([], 0)
theorem aN5 {J : f9 → J6 → Prop} (hinj : ∀ x r r', J x r → J x r' → r = r') {x : f9} {r : J6} (h : J x r) : M1 J x = r := by
 unfold M1
 rw [dif_pos ⟨r, h⟩]
 exact hinj x _ _ (Classical.choose_spec ⟨r, h⟩) h
theorem aA3 {J : f9 → J6 → Prop} (hinj : ∀ x r r', J x r → J x r' → r = r') : ∀ {L : List f9} {rs : List J6}, Paired J L rs → rs = L.map (M1 J) ∧ ∀ x ∈ L, J x (M1 J x)
 | _, _, .nil => ⟨rfl, fun _ h => by cases h⟩
 | _, _, .cons h t => by
  obtain ⟨e, k⟩ := aA3 hinj t
  refine ⟨by rw [List.map_cons, aN5 hinj h, ← e], fun x hx => ?_⟩
  rcases List.mem_cons.mp hx with rfl | hx
  ·rw [aN5 hinj h]; exact h
  ·exact k x hx
theorem ak4 {J : f9 → J6 → Prop} : ∀ {L : List f9}, (∀ x ∈ L, J x (M1 J x)) → Paired J L (L.map (M1 J))
 | [], _ => .nil
 | x :: L, h => .cons (h x (List.mem_cons_self ..)) (ak4 fun y hy => h y (List.mem_cons_of_mem _ hy))
theorem aR8 {x y : f9} {st : SortSt} {b : Bool} {Q : Option Bool → SortSt → Prop} (hk : PyProof.Rows.kindOf st = κ) (hc : wpAny M A (keyLt' κ x.1 y.1) (fun c s' => c = b ∧ s' = s) (fun _ _ => False) s) (h : Q (some b) st) : PyProof.Rows.wpS M A E s (lt' x y) Q st := by
 rw [lt'_eq]
 refine wpS_bind (wpS_get ?_)
 rw [hk]
 refine wpS_bind (wpS_lift (wpAny_attempt (wpAny_mono hc (fun c s' hq => ?_) fun _ _ e => e.elim)))
 obtain ⟨rfl, rfl⟩ := hq
 exact ⟨rfl, wpS_pure h⟩
theorem aq4 {J : f9 → J6 → Prop} {lo : J6 → J6 → Bool} (W : SWO lo) (hinj : ∀ x r r', J x r → J x r' → r = r')
  (hcmp : ∀ x y r r', J x r → J y r' → wpAny M A (keyLt' κ x.1 y.1) (fun c s' => c = lo r r' ∧ s' = s) (fun _ _ => False) s) {L : List f9} {rs : List J6} (hJ : Paired J L rs) (h2 : 2 ≤ L.length) {Q : Unit → SortSt → Prop}
  (h : ∀ st' L' rs', failedOf st' = none → arrOf st' = L'.toArray → Paired J L' rs' → rs'.Perm rs → rs'.Pairwise (fun a b => lo b a = false) → Q () st') :
  PyProof.Rows.wpS M A E s sortRuns' Q (SortSt.mk' κ L.toArray #[] 7 none) := by
 obtain ⟨hrs, hP⟩ := aA3 hinj hJ
 have hL : bK6 M A E s κ (fun x => x ∈ L) (fun x => (at8 lo rs (M1 J x) : Int)) := fun x y st Q hx hy hk hq => by
  refine aR8 hk (hcmp x y _ _ (hP x hx) (hP y hy)) ?_
  have hm : M1 J x ∈ rs := by rw [hrs]; exact List.mem_map_of_mem hx
  have e : decide ((at8 lo rs (M1 J x) : Int) < (at8 lo rs (M1 J y) : Int)) = lo (M1 J x) (M1 J y) := by
   have := aN2 W (b := M1 J y) hm
   cases hc : lo (M1 J x) (M1 J y) with
   | true => rw [decide_eq_true]; have := this.mp hc; exact Int.ofNat_lt.mpr (n8 _ _ (.k 1 i9 d5 .o) i9 d5 tt this)
   | false => rw [decide_eq_false]; intro hlt; have := this.mpr (by exact n8 _ _ (.k 1 i9 d5 .o) i9 d5 tt (Int.ofNat_lt.mp hlt)); rw [hc] at this; cases this
  rw [← e]; exact hq
 refine ay8 (C := ⟨M, A, E, s, κ, _, _, hL⟩) (st := SortSt.mk' κ L.toArray #[] 7 none) (fun i x hx => ?_) ⟨.refl _, rfl, rfl⟩ rfl h2 fun st' B' hs => ?_
 ·exact List.mem_of_getElem? ((Array.getElem?_toList ..).trans hx)
 ·have hp : (arrOf st').toList.Perm L := by simpa using B'.perm
  have hP' : ∀ x ∈ (arrOf st').toList, J x (M1 J x) := fun x hx => hP x (hp.mem_iff.mp hx)
  refine h st' (arrOf st').toList ((arrOf st').toList.map (M1 J)) B'.failed (by simp) (ak4 hP') (by rw [hrs]; exact hp.map _) ?_
  have hz : (arrOf st').size = L.toArray.size := B'.size
  refine List.pairwise_iff_getElem.mpr fun i j hi hj hij => ?_
  simp only [List.length_map, Array.length_toList] at hi hj
  have e1 : (arrOf st')[i]? = some (arrOf st')[i] := getElem?_pos _ i hi
  have e2 : (arrOf st')[j]? = some (arrOf st')[j] := getElem?_pos _ j hj
  have := hs i j (Nat.zero_le _) (Nat.le_of_lt hij) (by rw [← hz]; exact hj)
  rw [H0 e1, H0 e2] at this
  have this : (at8 lo rs (M1 J (arrOf st')[i]) : Int) ≤ at8 lo rs (M1 J (arrOf st')[j]) := this
  simp only [List.getElem_map, Array.getElem_toList]
  cases hc : lo (M1 J (arrOf st')[j]) (M1 J (arrOf st')[i]) with
  | false => rfl
  | true =>
   have hm : M1 J (arrOf st')[j] ∈ rs := by rw [hrs]; exact List.mem_map_of_mem (hp.mem_iff.mp (by simp))
   have := (aN2 W hm).mp hc
   (first | lia | omega)
end
noncomputable def C8 (a b : J6) : Bool := decide (a.1 < b.1)
theorem bd6 (a b : List Nat) : a < b ∨ a = b ∨ b < a := by
 by_cases h1 : a < b
 ·exact .inl h1
 ·by_cases h2 : b < a
  ·exact .inr (.inr h2)
  ·exact .inr (.inl (List.le_antisymm (List.not_lt.mp h2) (List.not_lt.mp h1)))
theorem ak9 : SWO C8 := by
 refine ⟨fun a => ?_, fun a b c h1 h2 => ?_, fun a b c h => ?_⟩
 ·simp [C8, List.lt_irrefl]
 ·simp only [C8, decide_eq_true_eq] at *; exact List.lt_trans h1 h2
 ·simp only [C8, decide_eq_true_eq] at *
  rcases bd6 a.1 b.1 with q | q | q
  ·exact .inl q
  ·rw [← q]; exact .inr h
  ·exact .inr (List.lt_trans q h)
theorem nT {P : Prop} (h : false = true) : P := absurd h Bool.false_ne_true
theorem nF {P : Prop} (h : true = false) : P := absurd h.symm Bool.false_ne_true
theorem nS {P : Prop} {α : Type} {a : α} (h : none = some a) : P := nomatch h
inductive V where
 | unb | none | bool (b : Bool) | int (i : Int) | str (s : List Nat) | tup (xs : List V) | lst (xs : List V) | scr (xs : List V) | ref (a : Addr) | rng (a b : Int) | prim (v : Value) | obj (P : Addr → Obj → Addr → Obj → Prop)
abbrev Fz := Addr → Option Obj
inductive Oc where
 | lst (xs : List V) | ro (xs : List V) | tr (w : Bool) (k : V) (b : Addr) | gen (P : Obj → Prop)
noncomputable def Oc.rw : Oc → Bool
 | .lst _ => true
 | .ro _ => false
 | .tr w _ _ => w
 | .gen _ => true
noncomputable def Oc.fr : Oc → Bool
 | .lst _ => true
 | .gen _ => true
 | _ => false
theorem Oc.fr_rw {c : Oc} (h : c.fr = true) : c.rw = true := by cases c <;> first | rfl | cases h
abbrev Ow := Addr → Option Oc
noncomputable def Ow.put (σ : Ow) (a : Addr) (c : Oc) : Ow := fun b => if b = a then some c else σ b
noncomputable def Ow.set (σ : Ow) (a : Addr) (xs : List V) : Ow := σ.put a (.lst xs)
theorem Ow.put_self (σ : Ow) (a : Addr) (c : Oc) : σ.put a c a = some c := if_pos rfl
theorem Ow.put_ne (σ : Ow) {a b : Addr} (c : Oc) (h : b ≠ a) : σ.put a c b = σ b := if_neg h
theorem Ow.set_self (σ : Ow) (a : Addr) (xs : List V) : σ.set a xs a = some (.lst xs) := if_pos rfl
theorem Ow.set_ne (σ : Ow) {a b : Addr} (xs : List V) (h : b ≠ a) : σ.set a xs b = σ b := if_neg h
noncomputable def Fz.add (F : Fz) (a : Addr) (o : Obj) : Fz := fun b => if b = a then some o else F b
noncomputable def z7 (vs : List Value) (n : Nat) : Obj := { cls := .type "list", data := .seq vs.toArray n }
noncomputable def an9 (vs : List Value) (n : Nat) : Obj := { cls := .type "tuple", data := .seq vs.toArray n }
mutual
def Rel (F : Fz) : V → Value → Prop
 | .unb, _ => True
 | .none, v => v = .none
 | .bool b, v => v = .bool b
 | .int i, v => ∃ t, v = .int i t
 | .str s, v => ∃ t, v = .str ⟨s.toArray⟩ t
 | .tup xs, v => ∃ a vs, v = .ref a ∧ (∃ n, F a = some (an9 vs n)) ∧ RelL F xs vs
 | .lst xs, v => ∃ a vs, v = .ref a ∧ (∃ n, F a = some (z7 vs n)) ∧ RelL F xs vs
 | .scr xs, v => ∃ a vs, v = .ref a ∧ (∃ o, F a = some o ∧ o.cls = .type "list" ∧ ∃ n, o.data = .seq vs.toArray n) ∧ RelL F xs vs
 | .ref a, v => v = .ref a
 | .rng a b, v => (-(2 ^ 62) ≤ a ∧ a < 2 ^ 62 ∧ -(2 ^ 62) ≤ b ∧ b < 2 ^ 62) ∧ ∃ r t u w, v = .ref r ∧ F r = some { cls := .type "range", dict := none, data := .fields #[.int a t, .int b u, .int 1 w], slots := #[] }
 | .prim w, v => v = w
 | .obj P, v => ∃ a o d od, v = .ref a ∧ F a = some o ∧ F d = some od ∧ P a o d od
def RelL (F : Fz) : List V → List Value → Prop
 | [], vs => vs = []
 | x :: xs, vs => ∃ v ws, vs = v :: ws ∧ Rel F x v ∧ RelL F xs ws
end
mutual
theorem Rel.mono {F F' : Fz} (k : ∀ a o, F a = some o → F' a = some o) : ∀ {x : V} {v : Value}, Rel F x v → Rel F' x v
 | .unb, _, _ => trivial
 | .none, _, r => r
 | .bool _, _, r => r
 | .int _, _, r => r
 | .str _, _, r => r
 | .tup _, _, r => r.imp fun _ r => r.imp fun _ r => ⟨r.1, r.2.1.imp fun _ => k _ _, RelL.mono k r.2.2⟩
 | .lst _, _, r => r.imp fun _ r => r.imp fun _ r => ⟨r.1, r.2.1.imp fun _ => k _ _, RelL.mono k r.2.2⟩
 | .scr _, _, r => r.imp fun _ r => r.imp fun _ r => ⟨r.1, r.2.1.imp fun _ q => ⟨k _ _ q.1, q.2⟩, RelL.mono k r.2.2⟩
 | .ref _, _, r => r
 | .rng _ _, _, r => ⟨r.1, r.2.imp fun _ r => r.imp fun _ r => r.imp fun _ r => r.imp fun _ r => ⟨r.1, k _ _ r.2⟩⟩
 | .prim _, _, r => r
 | .obj _, _, r => r.imp fun _ r => r.imp fun _ r => r.imp fun _ r => r.imp fun _ r => ⟨r.1, k _ _ r.2.1, k _ _ r.2.2.1, r.2.2.2⟩
theorem RelL.mono {F F' : Fz} (k : ∀ a o, F a = some o → F' a = some o) : ∀ {xs : List V} {vs : List Value}, RelL F xs vs → RelL F' xs vs
 | [], _, r => r
 | _ :: _, _, r => r.imp fun _ r => r.imp fun _ r => ⟨r.1, Rel.mono k r.2.1, RelL.mono k r.2.2⟩
end
section
variable {F : Fz}
theorem RelL.length : ∀ {xs : List V} {vs : List Value}, RelL F xs vs → vs.length = xs.length
 | [], _, rfl => rfl
 | _ :: _, _, ⟨_, _, e, _, r⟩ => e ▸ congrArg Nat.succ (RelL.length r)
theorem RelL.get : ∀ {xs : List V} {vs : List Value} {i : Nat} {x : V}, RelL F xs vs → xs[i]? = some x → ∃ v, vs[i]? = some v ∧ Rel F x v
 | [], _, _, _, _, e => nomatch e
 | _ :: _, _, 0, _, ⟨v, _, e, a, _⟩, q => ⟨v, e ▸ rfl, Option.some.inj q ▸ a⟩
 | _ :: _, _, i + 1, _, ⟨_, _, e, _, r⟩, q => e ▸ r.get (i := i) q
theorem RelL.append : ∀ {xs : List V} {vs : List Value} {ys : List V} {ws : List Value}, RelL F xs vs → RelL F ys ws → RelL F (xs ++ ys) (vs ++ ws)
 | [], _, _, _, rfl, r => r
 | _ :: _, _, _, _, ⟨v, us, e, a, b⟩, r => ⟨v, us ++ _, e ▸ rfl, a, b.append r⟩
theorem RelL.take : ∀ {xs : List V} {vs : List Value} (n : Nat), RelL F xs vs → RelL F (xs.take n) (vs.take n)
 | _, _, 0, _ => rfl
 | [], _, _ + 1, rfl => rfl
 | _ :: _, _, n + 1, ⟨v, us, e, a, b⟩ => ⟨v, us.take n, e ▸ rfl, a, b.take n⟩
theorem RelL.drop : ∀ {xs : List V} {vs : List Value} (n : Nat), RelL F xs vs → RelL F (xs.drop n) (vs.drop n)
 | _, _, 0, r => r
 | [], _, _ + 1, rfl => rfl
 | _ :: _, _, n + 1, ⟨_, _, e, _, b⟩ => e ▸ b.drop n
theorem RelL.one {x : V} {v : Value} (r : Rel F x v) : RelL F [x] [v] := ⟨v, [], rfl, r, rfl⟩
def RelO (F : Fz) (x : V) (ov : Option Value) : Prop := x ≠ .unb → ∃ v, ov = some v ∧ Rel F x v
theorem RelO.mono {F' : Fz} (k : ∀ a o, F a = some o → F' a = some o) {x : V} {ov : Option Value} (r : RelO F x ov) : RelO F' x ov := fun h => (r h).imp fun _ q => ⟨q.1, q.2.mono k⟩
end
def OcR (X : Bool) (F : Fz) (o : Obj) : Oc → Prop
 | .lst xs => ∃ vs n, o = z7 vs n ∧ RelL F xs vs
 | .ro xs => ∃ vs n, o = z7 vs n ∧ RelL F xs vs
 | .tr _ k b => ∃ es ep v, o.data = .dict es ep ∧ StrKeys es ∧ UniqKeys es ∧ nsFind es "kept" = some v ∧ nsFind es "past" = some (.ref b) ∧ (∀ n : Str, n ≠ "kept" → n ≠ "past" → nsFind es n = none) ∧ (∀ i, v ≠ .builtin i) ∧ Rel F k v
 | .gen P => X = true ∧ P o
theorem OcR.mono {X : Bool} {F F' : Fz} {o : Obj} (k : ∀ a o, F a = some o → F' a = some o) : ∀ {c : Oc}, OcR X F o c → OcR X F' o c
 | .lst _, ⟨vs, n, e, r⟩ => ⟨vs, n, e, r.mono k⟩
 | .ro _, ⟨vs, n, e, r⟩ => ⟨vs, n, e, r.mono k⟩
 | .tr _ _ _, ⟨es, ep, v, h1, h2, h3, h4, h5, h6, h7, r⟩ => ⟨es, ep, v, h1, h2, h3, h4, h5, h6, h7, r.mono k⟩
 | .gen _, h => h
def KeepO (X : Bool) (o o' : Obj) : Prop := o' = o ∨ ((∃ es n, o.data = .dict es n) ∧ X = false ∧ ∃ sl, o' = { o with slots := sl })
theorem KeepO.trans {X : Bool} {a b c : Obj} (x : KeepO X a b) (y : KeepO X b c) : KeepO X a c := by
 rcases x with rfl | ⟨hd, hx, sl, rfl⟩
 ·exact y
 ·rcases y with rfl | ⟨_, _, sl', rfl⟩
  ·exact .inr ⟨hd, hx, sl, rfl⟩
  ·exact .inr ⟨hd, hx, sl', rfl⟩
theorem KeepO.data {X : Bool} {a b : Obj} (x : KeepO X a b) : b.data = a.data := by
 rcases x with rfl | ⟨_, _, _, rfl⟩ <;> rfl
theorem KeepO.no {X : Bool} {a b : Obj} (x : KeepO X a b) : KeepO false a b := x.imp id fun q => ⟨q.1, rfl, q.2.2⟩
theorem OcR.keep {X : Bool} {F : Fz} {o o' : Obj} (k : KeepO X o o') : ∀ {c : Oc}, OcR X F o c → OcR X F o' c
 | .lst _, ⟨vs, n, e, r⟩ => by
  rcases k with rfl | ⟨⟨_, _, h⟩, _⟩
  ·exact ⟨vs, n, e, r⟩
  ·subst e; cases h
 | .ro _, ⟨vs, n, e, r⟩ => by
  rcases k with rfl | ⟨⟨_, _, h⟩, _⟩
  ·exact ⟨vs, n, e, r⟩
  ·subst e; cases h
 | .tr _ _ _, ⟨es, ep, v, h1, h⟩ => ⟨es, ep, v, k.data.trans h1, h⟩
 | .gen _, ⟨hx, h⟩ => by
  rcases k with rfl | ⟨_, hf, _⟩
  ·exact ⟨hx, h⟩
  ·exact nomatch hx.symm.trans hf
def DK (o o' : Obj) : Prop := ∀ es n, o.data = .dict es n → ∃ es n, o'.data = .dict es n
theorem DK.refl (o : Obj) : DK o o := fun es n e => ⟨es, n, e⟩
theorem DK.trans {a b c : Obj} (x : DK a b) (y : DK b c) : DK a c := fun es n e => (x es n e).elim fun es e => e.elim fun n e => y es n e
structure St (X : Bool) (D : Addr → Prop) (F : Fz) (s : Shared) (F' : Fz) (s' : Shared) : Prop where
 up : ∀ a o, F a = some o → F' a = some o
 sub : ∀ a o, F' a = some o → s'.heap.get? a = some o
 keepO : ∀ b o, s.heap.get? b = some o → ¬ D b → ∃ o', s'.heap.get? b = some o' ∧ KeepO X o o'
 live : ∀ b o, s.heap.get? b = some o → ∃ o', s'.heap.get? b = some o' ∧ DK o o'
 new : ∀ b o, F' b = some o → F b = some o ∨ s.heap.get? b = none
 rest : s' = { s with heap := s'.heap, toks := s'.toks }
abbrev N0 : Addr → Prop := fun _ => False
section
variable {X : Bool} {D D' : Addr → Prop} {F F₁ F₂ : Fz} {s s₁ s₂ : Shared}
theorem St.keep (S : St X D F s F₁ s₁) (b : Addr) (o : Obj) (e : s.heap.get? b = some o) (d : ¬ D b) (hd : ∀ es n, o.data ≠ .dict es n) : s₁.heap.get? b = some o :=
 (S.keepO b o e d).elim fun _ q => q.2.elim (fun h => h ▸ q.1) fun h => h.1.elim fun es h => h.elim fun n h => absurd h (hd es n)
theorem St.dead (S : St X D F s F₁ s₁) {b : Addr} (h : s₁.heap.get? b = none) : s.heap.get? b = none := by
 cases q : s.heap.get? b with
 | none => rfl
 | some o => exact (S.live b o q).elim fun _ e => nS (h.symm.trans e.1)
theorem St.trans (x : St X D F s F₁ s₁) (y : St X D F₁ s₁ F₂ s₂) : St X D F s F₂ s₂ :=
 ⟨fun a o e => y.up a o (x.up a o e), y.sub, fun b o e d => (x.keepO b o e d).elim fun o' q => (y.keepO b o' q.1 d).imp fun _ r => ⟨r.1, q.2.trans r.2⟩, fun b o e => (x.live b o e).elim fun o' e' => (y.live b o' e'.1).imp fun _ r => ⟨r.1, e'.2.trans r.2⟩,
  fun b o e => (y.new b o e).elim (x.new b o) fun q => .inr (x.dead q), by rw [y.rest, x.rest]⟩
theorem St.weaken (x : St X D F s F₁ s₁) (h : ∀ b o, s.heap.get? b = some o → D b → D' b) : St X D' F s F₁ s₁ :=
 ⟨x.up, x.sub, fun b o e d => x.keepO b o e fun q => d (h b o e q), x.live, x.new, x.rest⟩
theorem St.no (x : St X D F s F₁ s₁) : St false D F s F₁ s₁ := ⟨x.up, x.sub, fun b o e d => (x.keepO b o e d).imp fun _ q => ⟨q.1, q.2.no⟩, x.live, x.new, x.rest⟩
theorem St.at (x : St false D F s F₁ s₁) {Y : Bool} (h : Y = false) : St Y D F s F₁ s₁ := h ▸ x
theorem St.any (x : St X N0 F s F₁ s₁) : St X D F s F₁ s₁ := x.weaken fun _ _ _ => False.elim
theorem St.grow {h' : Heap} {t : Nat} (sub : ∀ a o, F a = some o → s.heap.get? a = some o) (k : ∀ b o, s.heap.get? b = some o → h'.get? b = some o) : St X D F s F { s with heap := h', toks := t } :=
 ⟨fun _ _ e => e, fun a o e => k a o (sub a o e), fun b o e _ => ⟨o, k b o e, .inl rfl⟩, fun b o e => ⟨o, k b o e, .refl o⟩, fun _ _ e => .inl e, rfl⟩
theorem St.refl (sub : ∀ a o, F a = some o → s.heap.get? a = some o) : St X D F s F s := St.grow (h' := s.heap) (t := s.toks) sub fun _ _ e => e
theorem j9 (h : Heap) : h.get? h.objs.size = none := by
 cases q : h.get? h.objs.size with
 | none => rfl
 | some o => exact absurd (Heap.lt_size q) (Nat.lt_irrefl _)
theorem St.freeze (S : St X D F s F₁ s₁) {a : Addr} {o : Obj} (ha : s.heap.get? a = none) (ho : s₁.heap.get? a = some o) (hn : F₁ a = none) : St X D F s (F₁.add a o) s₁ := by
 refine ⟨fun b p e => ?_, fun b p e => ?_, S.keepO, S.live, fun b p e => ?_, S.rest⟩ <;> by_cases h : b = a
 ·exact nomatch (h ▸ S.up b p e : F₁ a = some p).symm.trans hn
 ·exact (if_neg h).trans (S.up b p e)
 ·subst h; exact (Option.some.inj ((if_pos rfl).symm.trans e)) ▸ ho
 ·exact S.sub b p ((if_neg h).symm.trans e)
 ·exact .inr (h ▸ ha)
 ·exact S.new b p ((if_neg h).symm.trans e)
theorem Fz.add_self {a : Addr} {o : Obj} : F.add a o a = some o := if_pos rfl
end
noncomputable def aD7 : List (Str × Value) := [("len", .builtin "len"), ("isinstance", .builtin "isinstance"), ("range", .type "range"), ("min", .builtin "min"), ("int", .type "int"), ("tuple", .type "tuple"), ("list", .type "list"), ("sorted", .builtin "sorted"), ("ord", .builtin "ord"), ("all", .builtin "all"), ("str", .type "str"), ("bool", .type "bool"), ("set", .type "set"), ("dict", .type "dict"), ("max", .builtin "max"), ("enumerate", .type "enumerate")]
structure Gl where
 prog : Program
 w : World
 B : Heap
 mg : Str → Option Value
 mb : Str → Option Value
 d : Nat
 x : Bool
noncomputable abbrev Gl.M (G : Gl) : Model := model G.prog G.w
noncomputable abbrev Gl.dn (G : Gl) : Gl := ⟨G.prog, G.w, G.B, G.mg, G.mb, G.d - 1, G.x⟩
structure Gl.Ok (G : Gl) : Prop where
 g : G.B.Ns mainGlobals G.mg
 b : G.B.Ns builtinsNs G.mb
 nolimit : G.B.NoLimit
 blt : ∀ (i : Nat) (x : Str) (v : Value), aD7[i]? = some (x, v) → G.mg x = none ∧ G.mb x = some v
def FrOk (F : Fz) (h : Heap) (l : List Env) : Prop := ∀ env ∈ l, env.scope.kind ≠ .module ∧ ∃ L, env.frame = some L ∧ F L = none ∧ ∃ o es n, h.get? L = some o ∧ o.data = .dict es n
def L6 (A : Around) (q : Addr) : Prop := ∀ l, A.frames = some l → ∀ env ∈ l, env.frame ≠ some q
structure Rm (G : Gl) (A : Around) (F : Fz) (s : Shared) : Prop where
 go : G.Ok
 base : ∀ a o, G.B.get? a = some o → F a = some o
 sub : ∀ a o, F a = some o → s.heap.get? a = some o
 depth : A.depth + G.d ≤ recursionLimit
 units : A.units + 10 * G.d + 100 ≤ cLine
 handled : A.handled = none
 frames : ∃ l, A.frames = some l ∧ FrOk F s.heap l
structure Sx where
 sc : Scope
 ns : List Str
noncomputable def w0 (K : Sx) (i : Nat) (x : Str) : Bool :=
 K.ns[i]? == some x && (K.sc.names.lookup x == some .local || K.sc.names.lookup x == some .cell) && !(x == ("__debug__" : Str))
noncomputable def j8 (K : Sx) (x : Str) : Bool := K.sc.names.lookup x == some .globalImplicit && !(x == ("__debug__" : Str))
structure LOk (K : Sx) (env : Env) (ρ : List V) (F : Fz) (h : Heap) : Prop where
 len : ρ.length = K.ns.length
 out : F env.locals = none
 vars : ∃ m, h.Ns env.locals m ∧ ∀ (i : Nat) (x : Str) (v : V), K.ns[i]? = some x → ρ[i]? = some v →
  (K.sc.names.lookup x = some .local → RelO F v (m x)) ∧
  (K.sc.names.lookup x = some .cell → ∃ c ov, env.cells.lookup x = some c ∧ h.IsCell c ov ∧ RelO F v ov ∧ F c = none)
structure EOk (G : Gl) (K : Sx) (A : Around) (env : Env) (ρ : List V) (σ : Ow) (F : Fz) (s : Shared) : Prop where
 rm : Rm G A F s
 sc : env.scope = K.sc
 kind : env.scope.kind = .function
 globals : env.globals = mainGlobals
 builtins : env.builtins = builtinsNs
 own : ∀ a c, σ a = some c → F a = none ∧ ∃ o, s.heap.get? a = some o ∧ OcR G.x F o c
 loc : LOk K env ρ F s.heap
section
variable {G : Gl} {K : Sx} {A : Around} {env : Env} {ρ : List V} {σ : Ow} {F F' : Fz} {s s' : Shared} {D : Addr → Prop}
theorem St.out (S : St G.x D F s F' s') {a : Addr} {o : Obj} (h : F a = none) (ho : s.heap.get? a = some o) : F' a = none := by
 cases q : F' a with
 | none => rfl
 | some p => exact (S.new a p q).elim (fun e => nS (h.symm.trans e)) fun e => nomatch ho.symm.trans e
theorem FrOk.step {l : List Env} (h : FrOk F s.heap l) (S : St G.x D F s F' s') : FrOk F' s'.heap l := fun env m => (h env m).imp id fun q => q.imp fun _ q => ⟨q.1, q.2.2.elim fun _ r => r.elim fun _ r => r.elim fun _ r => S.out q.2.1 r.1,
 q.2.2.elim fun o r => r.elim fun es r => r.elim fun n r => (S.live _ o r.1).imp fun _ t => (t.2 es n r.2).imp fun _ u => u.imp fun _ u => ⟨t.1, u⟩⟩
theorem Rm.step (R : Rm G A F s) (S : St G.x D F s F' s') : Rm G A F' s' := ⟨R.go, fun a o e => S.up a o (R.base a o e), S.sub, R.depth, R.units, R.handled, R.frames.imp fun _ q => ⟨q.1, q.2.step S⟩⟩
theorem Rm.nofr (R : Rm G A F s) {q : Addr} (h : ∀ o es n, s.heap.get? q = some o → o.data ≠ .dict es n) : L6 A q := fun l e env m hq => R.frames.elim fun l' r => by
 cases e.symm.trans r.1
 obtain ⟨_, L, hL, _, o, es, n, ho, hd⟩ := r.2 env m
 cases hq.symm.trans hL
 exact h o es n ho hd
theorem Rm.frs (R : Rm G A F s) {F' : Fz} {h' : Heap} (k : ∀ L, ¬ L6 A L → F L = none → (∃ o es n, s.heap.get? L = some o ∧ o.data = .dict es n) → F' L = none ∧ ∃ o es n, h'.get? L = some o ∧ o.data = .dict es n) : ∃ l, A.frames = some l ∧ FrOk F' h' l :=
 R.frames.imp fun l r => ⟨r.1, fun env m => (r.2 env m).imp id fun t => t.imp fun L t => ⟨t.1, k L (fun hn => hn l r.1 env m t.1) t.2.1 t.2.2⟩⟩
theorem U1 {X : Bool} {h h' : Heap} {a : Addr} {m : Str → Option Value} (hn : h.Ns a m) (k : ∀ o, h.get? a = some o → ∃ o', h'.get? a = some o' ∧ KeepO X o o') : h'.Ns a m :=
 hn.elim fun o r => r.elim fun es r => r.elim fun ep r => (k o r.1).elim fun o' q => ⟨o', es, ep, q.1, q.2.data.trans r.2.1, r.2.2⟩
theorem Z1 {h h' : Heap} {a : Addr} {m : Str → Option Value} (hn : h.Ns a m) (k : ∀ o, h.get? a = some o → h'.get? a = some o) : h'.Ns a m := hn.imp fun _ r => r.imp fun _ r => r.imp fun _ r => ⟨k _ r.1, r.2⟩
theorem U4 {h : Heap} {a : Addr} {m : Str → Option Value} (hn : h.Ns a m) : ∃ o, h.get? a = some o := hn.imp fun _ r => r.elim fun _ r => r.elim fun _ r => r.1
theorem LOk.step (L : LOk K env ρ F s.heap) (S : St G.x N0 F s F' s') : LOk K env ρ F' s'.heap :=
 ⟨L.len, L.vars.elim fun _ q => (U4 q.1).elim fun _ e => S.out L.out e, L.vars.imp fun _ q => ⟨U1 q.1 fun o e => S.keepO _ o e id, fun i x v hx hv => ⟨fun k => ((q.2 i x v hx hv).1 k).mono S.up, fun k =>
  ((q.2 i x v hx hv).2 k).imp fun _ r => r.imp fun _ r => ⟨r.1, r.2.1.imp fun _ t => ⟨S.keep _ _ t.1 id (fun _ _ e => nomatch t.2.symm.trans e), t.2⟩, r.2.2.1.mono S.up, r.2.1.elim fun _ t => S.out r.2.2.2 t.1⟩⟩⟩⟩
theorem EOk.step (E : EOk G K A env ρ σ F s) (S : St G.x N0 F s F' s') : EOk G K A env ρ σ F' s' :=
 ⟨E.rm.step S, E.sc, E.kind, E.globals, E.builtins, fun a xs q => (E.own a xs q).elim fun hF r => r.elim fun o r => ⟨S.out hF r.1, (S.keepO _ _ r.1 id).imp fun _ t => ⟨t.1, (r.2.keep t.2).mono S.up⟩⟩, E.loc.step S⟩
theorem EOk.lst (E : EOk G K A env ρ σ F s) (a : Addr) (xs : List V) (q : σ a = some (.lst xs)) : F a = none ∧ ∃ vs n, s.heap.get? a = some (z7 vs n) ∧ RelL F xs vs :=
 (E.own a _ q).imp id fun r => r.elim fun _ r => r.2.elim fun vs t => t.elim fun n t => ⟨vs, n, t.1 ▸ r.1, t.2⟩
end
inductive PV (X : Bool) (F : Fz) (s : Shared) (x : V) (v : Value) (s' : Shared) : Prop
 | mk (F' : Fz) (S : St X N0 F s F' s') (r : Rel F' x v)
inductive PL (X : Bool) (F : Fz) (s : Shared) (x : List V) (v : List Value) (s' : Shared) : Prop
 | mk (F' : Fz) (S : St X N0 F s F' s') (r : RelL F' x v)
inductive PB (X : Bool) (F : Fz) (s : Shared) (x : Bool) (v : Bool) (s' : Shared) : Prop
 | mk (F' : Fz) (S : St X N0 F s F' s') (r : v = x)
def Ev (G : Gl) (K : Sx) (ρ : List V) (σ : Ow) (e : PySem.Expr) (x : V) : Prop :=
 ∀ A env F s E, EOk G K A env ρ σ F s → wpAny G.M A (eval e env) (PV G.x F s x) E s
def Tr (G : Gl) (K : Sx) (ρ : List V) (σ : Ow) (e : PySem.Expr) (b : Bool) : Prop :=
 ∀ A env F s E, EOk G K A env ρ σ F s → wpAny G.M A (isTrue e env (eval e env)) (PB G.x F s b) E s
section
variable {G : Gl} {K : Sx} {A : Around} {env : Env} {ρ : List V} {σ : Ow} {F F₁ : Fz} {s s₁ : Shared} {E : Value → Shared → Prop} {e l r : PySem.Expr} {x y z : V} {p q : Pos}
theorem PV.from (S : St G.x N0 F s F₁ s₁) {v : Value} {s' : Shared} (h : PV G.x F₁ s₁ x v s') : PV G.x F s x v s' := h.casesOn fun F' S' r => ⟨F', S.trans S', r⟩
theorem E3 (S : St G.x N0 F s F₁ s₁) {M : Model} {t : Sem Value} (h : wpAny M A t (PV G.x F₁ s₁ x) E s₁) : wpAny M A t (PV G.x F s x) E s₁ := wpAny_mono h (fun _ _ q => q.from S) fun _ _ e => e
theorem Ev.bind {R : Value → Shared → Prop} (h : Ev G K ρ σ e x) (k₀ : EOk G K A env ρ σ F s) (k : ∀ v F' s', St G.x N0 F s F' s' → Rel F' x v → EOk G K A env ρ σ F' s' → R v s') : wpAny G.M A (eval e env) R E s :=
 wpAny_mono (h A env F s E k₀) (fun v s' q => q.casesOn fun F' S r => k v F' s' S r (k₀.step S)) fun _ _ e => e
theorem Tr.bind {b : Bool} {R : Bool → Shared → Prop} (h : Tr G K ρ σ e b) (k₀ : EOk G K A env ρ σ F s) (k : ∀ F' s', St G.x N0 F s F' s' → EOk G K A env ρ σ F' s' → R b s') : wpAny G.M A (isTrue e env (eval e env)) R E s :=
 wpAny_mono (h A env F s E k₀) (fun v s' q => q.casesOn fun F' S r => r ▸ k F' s' S (k₀.step S)) fun _ _ e => e
theorem J0 {v : Value} (k : EOk G K A env ρ σ F s) (r : Rel F x v) : PV G.x F s x v s := ⟨F, .refl k.rm.sub, r⟩
theorem s7 {v : Value} (R : Rm G A F s) (t : Nat) (r : Rel F x v) : PV G.x F s x v { s with toks := t } := ⟨F, .grow R.sub fun _ _ e => e, r⟩
theorem Q1 {v : Value} (R : Rm G A F s) (o : Obj) (t : Nat) (r : Rel (F.add s.heap.objs.size o) x v) (hf : Obj.isFreed o = false) : PV G.x F s x v { s with heap := s.heap.push o, toks := t } :=
 ⟨_, (St.grow (t := t) R.sub fun _ _ e => Heap.get?_push_of_some _ e).freeze (j9 _) (Heap.get?_push_size _ hf) (by
  cases q : F s.heap.objs.size with
  | none => rfl
  | some o => exact nS ((j9 s.heap).symm.trans (R.sub _ _ q))), r⟩
theorem o9 {k : Nat} : Ev G K ρ σ (.Constant .none k p) .none := fun _ _ _ _ _ k => by rw [eval_Constant]; exact wpAny_pure (J0 k rfl)
theorem y7 {b : Bool} {k : Nat} : Ev G K ρ σ (.Constant (.bool b) k p) (.bool b) := fun _ _ _ _ _ k => by rw [eval_Constant]; exact wpAny_pure (J0 k rfl)
theorem c9 {i : Int} {k : Nat} : Ev G K ρ σ (.Constant (.int i) k p) (.int i) := fun _ _ _ _ _ k => wpAny_Constant_int (s7 k.rm _ ⟨_, rfl⟩)
theorem am3 {a : Str} {k : Nat} : Ev G K ρ σ (.Constant (.str a) k p) (.str a.cps.toList) := fun _ _ _ _ _ k => Calls.Constant_str (s7 k.rm _ ⟨_, rfl⟩)
theorem i0 (l : List Nat) {a : Str} {k : Nat} (h : a.cps.toList = l := by decide +kernel) : Ev G K ρ σ (.Constant (.str a) k p) (.str l) := h ▸ am3
noncomputable def V.ok : V → Bool
 | .unb => false
 | _ => true
theorem V.ok_ne (h : x.ok = true) : x ≠ .unb := fun e => by subst e; cases h
theorem ak8 {i : Nat} {n : Str} (h : w0 K i n = true) : K.ns[i]? = some n ∧ (K.sc.names.lookup n = some .local ∨ K.sc.names.lookup n = some .cell) ∧ (n == ("__debug__" : Str)) = false := by
 have h1 := Bool.and_eq_true_iff.mp h
 have h2 := Bool.and_eq_true_iff.mp h1.1
 exact ⟨eq_of_beq h2.1, (Bool.or_eq_true_iff.mp h2.2).imp eq_of_beq eq_of_beq, (Bool.not_eq_true' _).mp h1.2⟩
theorem al9 {n : Str} (h : j8 K n = true) : K.sc.names.lookup n = some .globalImplicit ∧ (n == ("__debug__" : Str)) = false := by
 have h1 := Bool.and_eq_true_iff.mp h
 exact ⟨eq_of_beq h1.1, (Bool.not_eq_true' _).mp h1.2⟩
theorem O9 (k : EOk G K A env ρ σ F s) (n : Str) : env.kindOf n = K.sc.names.lookup n := by rw [← k.sc]; rfl
theorem L1 {i : Nat} {n : Str} {Q : Value → Shared → Prop} (k : EOk G K A env ρ σ F s) (hv : ρ[i]? = some x) (hu : x.ok = true) (h : w0 K i n = true) (h2 : ∀ v, Rel F x v → Q v s) : wpAny G.M A (eval (.Name n p) env) Q E s := by
 have q := ak8 h
 refine k.loc.vars.elim fun m r => ?_
 have r2 := r.2 i n x q.1 hv
 refine q.2.1.elim (fun hk => ?_) fun hk => ?_
 ·exact (r2.1 hk (V.ok_ne hu)).elim fun v t => wpAny_Name (wpAny_loadName_local k.kind ((O9 k n).trans hk) r.1 t.1 (h2 _ t.2)) q.2.2
 ·refine (r2.2 hk).elim fun c t => t.elim fun ov t => (t.2.2.1 (V.ok_ne hu)).elim fun v u => ?_
  exact wpAny_Name (wpAny_loadName_cell k.kind ((O9 k n).trans hk) t.1 (u.1 ▸ t.2.1) (h2 _ u.2)) q.2.2
theorem a8 (i : Nat) {n : Str} (hv : ρ[i]? = some x) (hu : x.ok = true := by rfl) (h : w0 K i n = true := by decide +kernel) : Ev G K ρ σ (.Name n p) x := fun A env F s E k => L1 k hv hu h fun _ r => J0 k r
theorem Rm.in (R : Rm G A F s) : ∀ b o, G.B.get? b = some o → s.heap.get? b = some o := fun b o e => R.sub b o (R.base b o e)
theorem n7 {n : Str} {v : Value} {Q : Value → Shared → Prop} (k : EOk G K A env ρ σ F s) (hv : G.mg n = some v ∨ (G.mg n = none ∧ G.mb n = some v)) (h : j8 K n = true) (h2 : Q v s) : wpAny G.M A (eval (.Name n p) env) Q E s := by
 have hg := al9 h
 refine Calls.Name_function_global k.kind ((O9 k n).trans hg.1) ?_ hg.2
 have hG : s.heap.Ns env.globals G.mg := by rw [k.globals]; exact k.rm.go.g.keeps k.rm.in
 exact hv.elim (fun hv => Calls.loadGlobal_global hG hv h2) fun hv => Calls.loadGlobal_builtin hG hv.1 (by rw [k.builtins]; exact k.rm.go.b.keeps k.rm.in) hv.2 h2
theorem bB5 (i : Nat) {n : Str} {v : Value} (hb : aD7[i]? = some (n, v)) (h : j8 K n = true) : Ev G K ρ σ (.Name n p) (.prim v) := fun _ _ _ _ _ k => n7 k (.inr (k.rm.go.blt i n v hb)) h (J0 k rfl)
theorem X8 {op : Operator} (h1 : Ev G K ρ σ l x) (h2 : Ev G K ρ σ r y) (h : ∀ A F s E v w, Rm G A F s → Rel F x v → Rel F y w → wpAny G.M A (binaryOp op v w) (PV G.x F s z) E s) : Ev G K ρ σ (.BinOp l op r p) z :=
 fun A env F s E k => wpAny_BinOp (h1.bind k fun v F₁ s₁ S₁ r₁ k₁ => h2.bind k₁ fun w F₂ s₂ S₂ r₂ k₂ => E3 (S₁.trans S₂) (h A F₂ s₂ E v w k₂.rm (r₁.mono S₂.up) r₂))
variable {i j : Int} {a b : List Nat} {xs ys : List V}
theorem H5 (h1 : Ev G K ρ σ l (.int i)) (h2 : Ev G K ρ σ r (.int j)) : Ev G K ρ σ (.BinOp l .Add r p) (.int (i + j)) :=
 X8 h1 h2 <| by rintro A F s E _ _ R ⟨_, rfl⟩ ⟨_, rfl⟩; exact P.add_int (s7 R _ ⟨_, rfl⟩)
theorem aJ2 (h1 : Ev G K ρ σ l (.int i)) (h2 : Ev G K ρ σ r (.int j)) : Ev G K ρ σ (.BinOp l .Sub r p) (.int (i - j)) :=
 X8 h1 h2 <| by rintro A F s E _ _ R ⟨_, rfl⟩ ⟨_, rfl⟩; exact P.sub_int (s7 R _ ⟨_, rfl⟩)
theorem Q8 (h1 : Ev G K ρ σ l (.int i)) (h2 : Ev G K ρ σ r (.int j)) (h : IntMulOk i j) : Ev G K ρ σ (.BinOp l .Mult r p) (.int (i * j)) :=
 X8 h1 h2 <| by rintro A F s E _ _ R ⟨_, rfl⟩ ⟨_, rfl⟩; exact P.mul_int (s7 R _ ⟨_, rfl⟩) h
theorem x9 (h1 : Ev G K ρ σ l (.int i)) (h2 : Ev G K ρ σ r (.int j)) (h : 0 < j) : Ev G K ρ σ (.BinOp l .Mod r p) (.int (i % j)) :=
 X8 h1 h2 <| by rintro A F s E _ _ R ⟨_, rfl⟩ ⟨_, rfl⟩; exact mod_int' (Int.ne_of_gt h) (Int.fmod_eq_emod_of_nonneg i (Int.le_of_lt h) ▸ s7 R _ ⟨_, rfl⟩)
theorem B3 (h1 : Ev G K ρ σ l (.int i)) (h2 : Ev G K ρ σ r (.int j)) (h : 0 < j) (h' : j < 1073741824) : Ev G K ρ σ (.BinOp l .FloorDiv r p) (.int (i / j)) :=
 X8 h1 h2 <| by
  rintro A F s E _ _ R ⟨_, rfl⟩ ⟨_, rfl⟩; exact floordiv_int (Int.ne_of_gt h) (Int.fdiv_eq_ediv_of_nonneg i (Int.le_of_lt h) ▸ s7 R _ ⟨_, rfl⟩) (.inl (PyProof.noPylong_small (by exact bP7 h h')))
theorem G4 (a : List Nat) : (⟨a.toArray⟩ : Str).length = a.length := rfl
theorem aK5 (a b : List Nat) : (⟨a.toArray⟩ : Str) ++ (⟨b.toArray⟩ : Str) = ⟨(a ++ b).toArray⟩ := by
 show Str.append _ _ = _
 simp [Str.append]
theorem aB1 (R : Rm G A F s) (hl : a.length ≤ sizeLine) : (Made.str ⟨a.toArray⟩).post (PV G.x F s (.str a)) s := ⟨hl, s7 R _ ⟨_, rfl⟩⟩
theorem E7 (h1 : Ev G K ρ σ l (.str a)) (h2 : Ev G K ρ σ r (.str b)) (h : a.length + b.length ≤ sizeLine) : Ev G K ρ σ (.BinOp l .Add r p) (.str (a ++ b)) :=
 X8 h1 h2 <| by
  rintro A F s E _ _ R ⟨_, rfl⟩ ⟨_, rfl⟩
  refine P.add_str ?_
  rw [aK5]
  split
  ·rename_i hz
   have : a = [] := List.eq_nil_of_length_eq_zero (eq_of_beq hz)
   subst this; exact s7 R s.toks ⟨_, rfl⟩
  ·split
   ·rename_i hz
    have : b = [] := List.eq_nil_of_length_eq_zero (eq_of_beq hz)
    subst this; rw [List.append_nil]; exact s7 R s.toks ⟨_, rfl⟩
   ·exact aB1 R (by rw [List.length_append]; exact h)
theorem aa6 (h1 : Ev G K ρ σ l (.lst xs)) (h2 : Ev G K ρ σ r (.lst ys)) (h : xs.length + ys.length ≤ sizeLine) : Ev G K ρ σ (.BinOp l .Add r p) (.lst (xs ++ ys)) :=
 X8 h1 h2 <| by
  rintro A F s E _ _ R ⟨_, us, rfl, ⟨n, h1⟩, r1⟩ ⟨_, ws, rfl, ⟨n', h2⟩, r2⟩
  have hp := Q1 (x := .lst (xs ++ ys)) (v := .ref s.heap.objs.size) R (z7 (us ++ ws) 0) s.toks ⟨_, us ++ ws, rfl, ⟨0, Fz.add_self⟩, (RelL.append r1 r2).mono fun a o e => (if_neg (by rintro rfl; exact nS ((j9 s.heap).symm.trans (R.sub _ _ e)))).trans e⟩ rfl
  have he : us.toArray ++ ws.toArray = (us ++ ws).toArray := by simp
  exact P.add_list (R.sub _ _ h1) (R.sub _ _ h2) (by rw [he]; exact hp) (by rw [List.size_toArray, List.size_toArray, r1.length, r2.length]; exact h)
theorem av5 (h1 : Ev G K ρ σ l (.int i)) : Ev G K ρ σ (.UnaryOp .USub l p) (.int (-i)) :=
 fun A env F s E k => wpAny_UnaryOp (h1.bind k (by rintro v F₁ s₁ S₁ ⟨_, rfl⟩ k₁; exact P.neg_int (PV.from S₁ (s7 (x := .int (-i)) k₁.rm _ ⟨_, rfl⟩))))
end
def Cm (G : Gl) (op : CmpOp) (x y : V) (b : Bool) : Prop := ∀ A F s E v w R, Rm G A F s → Rel F x v → Rel F y w → R (.bool b) s → wpAny G.M A (compareOp op v w) R E s
section
variable {G : Gl} {K : Sx} {ρ : List V} {σ : Ow} {e l r : PySem.Expr} {es : List PySem.Expr} {x y z : V} {p q : Pos} {b c : Bool} {op : CmpOp} {i j : Int} {a a' : List Nat} {xs ys : List V}
theorem F0 (h1 : Ev G K ρ σ l x) (h2 : Ev G K ρ σ r y) (h : Cm G op x y b) (hm : behindInMarks op r = false := by rfl) : Ev G K ρ σ (.Compare l [op] [r] p) (.bool b) :=
 fun A env F s E k => wpAny_Compare1 (h1.bind k fun v F₁ s₁ S₁ r₁ k₁ => h2.bind k₁ fun w F₂ s₂ S₂ r₂ k₂ => h A F₂ s₂ E v w _ k₂.rm (r₁.mono S₂.up) r₂ ⟨F₂, S₁.trans S₂, rfl⟩) hm
theorem d8 (h1 : Ev G K ρ σ l x) (h2 : Ev G K ρ σ r y) (h : Cm G op x y b) (hm : behindInMarks op r = false := by rfl) : Tr G K ρ σ (.Compare l [op] [r] p) b :=
 fun A env F s E k => wpAny_isTrue_Compare1 (h1.bind k fun v F₁ s₁ S₁ r₁ k₁ => h2.bind k₁ fun w F₂ s₂ S₂ r₂ k₂ => h A F₂ s₂ E v w _ k₂.rm (r₁.mono S₂.up) r₂ (wpAny_truthy_bool ⟨F₂, S₁.trans S₂, rfl⟩)) hm
theorem as0 : Cm G .Lt (.int i) (.int j) (decide (i < j)) := by rintro A F s E _ _ R _ ⟨_, rfl⟩ ⟨_, rfl⟩ h; exact P.lt_int h
theorem bg2 : Cm G .LtE (.int i) (.int j) (decide (i ≤ j)) := by rintro A F s E _ _ R _ ⟨_, rfl⟩ ⟨_, rfl⟩ h; exact P.le_int h
theorem P1 : Cm G .Gt (.int i) (.int j) (decide (j < i)) := by rintro A F s E _ _ R _ ⟨_, rfl⟩ ⟨_, rfl⟩ h; exact P.gt_int h
theorem bI3 : Cm G .GtE (.int i) (.int j) (decide (j ≤ i)) := by rintro A F s E _ _ R _ ⟨_, rfl⟩ ⟨_, rfl⟩ h; exact P.ge_int h
theorem m7 : Cm G .Eq (.int i) (.int j) (i == j) := by rintro A F s E _ _ R _ ⟨_, rfl⟩ ⟨_, rfl⟩ h; exact P.eq_int h
theorem aw1 : Cm G .NotEq (.int i) (.int j) (!(i == j)) := by rintro A F s E _ _ R _ ⟨_, rfl⟩ ⟨_, rfl⟩ h; exact P.ne_int h
theorem J9 : Cm G .Eq (.str a) (.str a') (a == a') := by rintro A F s E _ _ R _ ⟨_, rfl⟩ ⟨_, rfl⟩ h; exact P.eq_str h
theorem R1 : Cm G .NotEq (.str a) (.str a') (!(a == a')) := by rintro A F s E _ _ R _ ⟨_, rfl⟩ ⟨_, rfl⟩ h; exact P.ne_str h
noncomputable def V.nn : V → Bool
 | .bool _ | .int _ | .str _ | .tup _ | .lst _ | .ref _ => true
 | _ => false
theorem bc7 {F : Fz} {v : Value} (h : x.nn = true) (r : Rel F x v) : v ≠ .none ∧ plainIs v .none = true := by
 cases x <;> first | (cases h; done) | skip
 ·cases show v = .bool _ from r; exact ⟨nofun, rfl⟩
 ·obtain ⟨_, rfl⟩ := r; exact ⟨nofun, rfl⟩
 ·obtain ⟨_, rfl⟩ := r; exact ⟨nofun, rfl⟩
 ·obtain ⟨_, _, rfl, _⟩ := r; exact ⟨nofun, rfl⟩
 ·obtain ⟨_, _, rfl, _⟩ := r; exact ⟨nofun, rfl⟩
 ·cases show v = .ref _ from r; exact ⟨nofun, rfl⟩
theorem C9 : Cm G .Is .none .none true := by rintro A F s E _ _ R _ rfl rfl h; exact wpAny_is_self rfl h
theorem B4 (h : x.nn = true) : Cm G .Is x .none false := by rintro A F s E _ _ R _ r rfl h'; exact wpAny_is_other (bc7 h r).2 (bc7 h r).1 h'
theorem U3 (h : Cm G .Is x y b) : Cm G .IsNot x y (!b) := fun A F s E v w R k rv rw' hR => by
 have h' : wpAny G.M A (isSame v w >>= fun b => pure (Value.bool b)) (fun v s' => v = .bool b ∧ s' = s) E s := h A F s E v w _ k rv rw' ⟨rfl, rfl⟩
 show wpAny _ A (isSame v w >>= fun b => pure (.bool (!b))) R E s
 intro Γ p hΓ
 have := h' Γ p hΓ
 rw [Sem.wp_bind'] at this ⊢
 refine Sem.wp_mono _ Γ _ (fun b' p' s' hb => ?_) (fun _ _ _ x => x) _ _ this
 obtain ⟨e, rfl⟩ := hb
 cases e; exact hR
theorem am8 : Cm G .Is (.bool b) (.bool c) (b == c) := by
 rintro A F s E _ _ R _ rfl rfl h
 exact wpAny_is_plain rfl (by cases b <;> cases c <;> exact h)
theorem J5 {F : Fz} {s : Shared} {A : Around} {v : Value} (R : Rm G A F s) (r : Rel F (.lst xs) v) : ∃ a vs, v = .ref a ∧ s.heap.IsList a (List.toArray vs) ∧ vs.length = xs.length ∧ RelL F xs vs :=
 r.imp fun _ r => r.imp fun _ r => ⟨r.1, r.2.1.elim fun n e => ⟨_, R.sub _ _ e, rfl, n, rfl⟩, r.2.2.length, r.2.2⟩
theorem Rm.room {A : Around} {F : Fz} {s : Shared} (R : Rm G A F s) : A.units < cLine := by have := R.units; exact z3 _ _ _ (.k 1 (.add (.add c8 (.mulL 10 d5)) (.num 100)) e9 .o) i9 e9 tt this
open PySem.SeqAt in
theorem ad6 : Cm G .Eq (.lst xs) (.lst []) xs.isEmpty := fun A F s E v w R k rv rw' h => by
 obtain ⟨a, vs, rfl, hl, hn, _⟩ := J5 k rv
 obtain ⟨a', ws, rfl, hl', hn', _⟩ := J5 k rw'
 cases List.eq_nil_of_length_eq_zero hn'
 cases xs with
 | nil => cases List.eq_nil_of_length_eq_zero hn; exact RcAt.lists (e := fun _ => true) hl hl' rfl k.room (fun j h1 _ => absurd h1 (Nat.not_lt_zero _)) _ _ _ _ h
 | cons x xs => exact RcAt.lists_lengths hl hl' (by rw [List.size_toArray, hn]; rfl) k.room _ _ _ _ h
open PySem.SeqAt in
noncomputable def ac8 : PySem.Expr → Bool
 | .UnaryOp .Not _ _ | .BoolOp .. | .IfExp .. | .Compare .. => false
 | _ => true
theorem Q3 (h : ac8 e = true) (env : Env) (w : Sem Value) : isTrue e env w = (do let v ← w; standAt e.pos; holding [v] (truthy v)) := by
 cases e <;> first | rfl | cases h | skip
 rename_i op x p
 cases op <;> first | rfl | cases h
theorem z8 (h : Ev G K ρ σ e (.bool b)) (hp : ac8 e = true := by rfl) : Tr G K ρ σ e b := fun A env F s E k => by
 rw [Q3 hp]
 exact wpAny_bind (h.bind k fun v F₁ s₁ S₁ r₁ k₁ => wpAny_bind (wpAny_standAt (wpAny_holding (r₁ ▸ wpAny_truthy_bool ⟨F₁, S₁, rfl⟩))))
theorem D7 (h : Tr G K ρ σ e b) : Tr G K ρ σ (.UnaryOp .Not e p) (!b) := fun A env F s E k => by
 show wpAny _ A (do return !(← isTrue e env (eval e env))) _ _ s
 exact wpAny_bind (h.bind k fun F₁ s₁ S₁ k₁ => wpAny_pure ⟨F₁, S₁, rfl⟩)
theorem PB.from {F F₁ : Fz} {s s₁ s' : Shared} (S : St G.x N0 F s F₁ s₁) (h : PB G.x F₁ s₁ b c s') : PB G.x F s b c s' := h.casesOn fun F' S' r => ⟨F', S.trans S', r⟩
def TrL (G : Gl) (K : Sx) (ρ : List V) (σ : Ow) (op : BoolOp) (es : List PySem.Expr) (b : Bool) : Prop :=
 ∀ A env F s E, EOk G K A env ρ σ F s → wpAny G.M A (allTrue op es env) (PB G.x F s b) E s
theorem v1 {op : BoolOp} (h : TrL G K ρ σ op es b) : Tr G K ρ σ (.BoolOp op es p) b := h
theorem x6 {op : BoolOp} (h : Tr G K ρ σ e b) : TrL G K ρ σ op [e] b := fun A env F s E k =>
 wpAny_bind (h.bind k fun F₁ s₁ S₁ _ => by cases op <;> cases b <;> exact wpAny_pure ⟨F₁, S₁, rfl⟩)
theorem y2 (h : Tr G K ρ σ e b) (h2 : b = true → TrL G K ρ σ .And es c) : TrL G K ρ σ .And (e :: es) (b && c) := fun A env F s E k =>
 wpAny_bind (h.bind k fun F₁ s₁ S₁ k₁ => by
  cases b
  ·exact wpAny_pure ⟨F₁, S₁, rfl⟩
  ·exact wpAny_mono (h2 rfl A env F₁ s₁ E k₁) (fun _ _ q => q.from S₁) fun _ _ e => e)
theorem I1 (h : Tr G K ρ σ e b) (h2 : b = false → TrL G K ρ σ .Or es c) : TrL G K ρ σ .Or (e :: es) (b || c) := fun A env F s E k =>
 wpAny_bind (h.bind k fun F₁ s₁ S₁ k₁ => by
  cases b
  ·exact wpAny_mono (h2 rfl A env F₁ s₁ E k₁) (fun _ _ q => q.from S₁) fun _ _ e => e
  ·exact wpAny_pure ⟨F₁, S₁, rfl⟩)
theorem bB2 (h : Ev G K ρ σ e (.bool b)) : Ev G K ρ σ (.UnaryOp .Not e p) (.bool (!b)) := fun A env F s E k => by
 show wpAny _ A (do let v ← eval e env; standAt p; holding [v] (unaryOp .Not v)) _ _ s
 refine wpAny_bind (h.bind k fun v F₁ s₁ S₁ r₁ k₁ => wpAny_bind (wpAny_standAt (wpAny_holding ?_)))
 show wpAny _ A (holding [v] (do return Value.bool (!(← truthy v)))) _ _ s₁
 exact wpAny_holding (wpAny_bind (r₁ ▸ wpAny_truthy_bool (wpAny_pure ⟨F₁, S₁, rfl⟩)))
def EvB (G : Gl) (K : Sx) (ρ : List V) (σ : Ow) (op : BoolOp) (es : List PySem.Expr) (b : Bool) : Prop :=
 ∀ A env F s E p, EOk G K A env ρ σ F s → wpAny G.M A (boolOp p op (evalEach es env)) (PV G.x F s (.bool b)) E s
theorem Q9 {op : BoolOp} (h : EvB G K ρ σ op es b) : Ev G K ρ σ (.BoolOp op es p) (.bool b) := fun A env F s E k => h A env F s E p k
theorem Q5 {op : BoolOp} (h : Ev G K ρ σ e (.bool b)) : EvB G K ρ σ op [e] b := fun A env F s E _ k => h A env F s E k
theorem H4 (h : Ev G K ρ σ e (.bool b)) (h2 : b = true → EvB G K ρ σ .And (r :: es) c) : EvB G K ρ σ .And (e :: r :: es) (b && c) := fun A env F s E p k => by
 show wpAny _ A (do
   let v ← eval e env
   standAt p
   let b ← holding [v] (truthy v)
   match BoolOp.And, b with
   | .And, false | .Or, true => pure v
   | _, _ => boolOp p .And (evalEach (r :: es) env)) _ _ s
 refine wpAny_bind (h.bind k fun v F₁ s₁ S₁ r₁ k₁ => wpAny_bind (wpAny_standAt (wpAny_bind (wpAny_holding ?_))))
 cases show v = .bool b from r₁
 refine wpAny_truthy_bool ?_
 cases b
 ·exact wpAny_pure ⟨F₁, S₁, rfl⟩
 ·exact E3 S₁ (h2 rfl A env F₁ s₁ E p k₁)
def EvL (G : Gl) (K : Sx) (ρ : List V) (σ : Ow) (es : List PySem.Expr) (xs : List V) : Prop :=
 ∀ A env F s E, EOk G K A env ρ σ F s → wpAny G.M A (spliced (es.map fun e => (false, eval e env))) (PL G.x F s xs) E s
theorem b9 : EvL G K ρ σ [] [] := fun A env F s E k => Calls.spliced_nil ⟨F, .refl k.rm.sub, rfl⟩
theorem b8 (h : Ev G K ρ σ e x) (h2 : EvL G K ρ σ es xs) : EvL G K ρ σ (e :: es) (x :: xs) := fun A env F s E k =>
 Calls.spliced_cons (h.bind k fun v F₁ s₁ S₁ r₁ k₁ => wpAny_mono (h2 A env F₁ s₁ E k₁) (fun vs s₂ q => q.casesOn fun F₂ S₂ r₂ => ⟨F₂, S₁.trans S₂, v, vs, rfl, r₁.mono S₂.up, r₂⟩) fun _ _ e => e)
theorem EvL.bind {A : Around} {env : Env} {F : Fz} {s : Shared} {E : Value → Shared → Prop} {R : List Value → Shared → Prop} (h : EvL G K ρ σ es xs) (k₀ : EOk G K A env ρ σ F s) (k : ∀ v F' s', St G.x N0 F s F' s' → RelL F' xs v → EOk G K A env ρ σ F' s' → R v s') :
  wpAny G.M A (spliced (es.map fun e => (false, eval e env))) R E s :=
 wpAny_mono (h A env F s E k₀) (fun v s' q => q.casesOn fun F' S r => k v F' s' S r (k₀.step S)) fun _ _ e => e
noncomputable def f0 : PySem.Expr → Bool
 | .Starred .. => false
 | _ => true
theorem ao0 (h : f0 e = true) (es : List PySem.Expr) (env : Env) : starEach (e :: es) env = (false, eval e env) :: starEach es env := by
 cases e <;> first | rfl | cases h
theorem m6 (pos : Pos) (env : Env) : ∀ {es : List PySem.Expr}, es.all f0 = true → backTo pos (starEach es env) = es.map fun e => (false, eval e env)
 | [], _ => rfl
 | e :: es, h => by
  have h := Bool.and_eq_true_iff.mp h
  rw [ao0 h.1]
  show (false, _) :: backTo pos (starEach es env) = _
  rw [m6 pos env h.2]; rfl
theorem ae0 {F : Fz} {s : Shared} {A : Around} (R : Rm G A F s) {ob : Obj} : ∀ a o, F a = some o → F.add s.heap.objs.size ob a = some o := fun a o e =>
 (if_neg (by rintro rfl; exact nS ((j9 s.heap).symm.trans (R.sub _ _ e)))).trans e
theorem aH4 {A : Around} {F : Fz} {s : Shared} {E : Value → Shared → Prop} {vs : List Value} (R : Rm G A F s) (r : RelL F xs vs) (hl : xs.length ≤ sizeLine) : wpAny G.M A (newList vs) (PV G.x F s (.lst xs)) E s :=
 wpAny_newObj_type (Q1 R (z7 vs 0) s.toks ⟨_, vs, rfl, ⟨0, Fz.add_self⟩, r.mono (ae0 R)⟩ rfl) (by show vs.toArray.size ≤ _; rw [List.size_toArray, r.length]; exact hl)
theorem N1 {A : Around} {F : Fz} {s : Shared} {E : Value → Shared → Prop} {vs : List Value} (R : Rm G A F s) (r : RelL F xs vs) (hl : xs.length ≤ sizeLine) : wpAny G.M A (newTuple vs) (PV G.x F s (.tup xs)) E s :=
 wpAny_newObj_type (Q1 R (an9 vs 0) s.toks ⟨_, vs, rfl, ⟨0, Fz.add_self⟩, r.mono (ae0 R)⟩ rfl) (by show vs.toArray.size ≤ _; rw [List.size_toArray, r.length]; exact hl)
theorem z6 (h : EvL G K ρ σ es xs) (hl : xs.length ≤ sizeLine) (hs : es.all f0 = true := by rfl) : Ev G K ρ σ (.List es p) (.lst xs) := fun A env F s E k => by
 refine List_ ?_
 rw [m6 p env hs]
 exact h.bind k fun vs F₁ s₁ S₁ r k₁ => E3 S₁ (aH4 k₁.rm r hl)
theorem n6 {n : Nat} (h : EvL G K ρ σ es xs) (hl : xs.length ≤ sizeLine) (hs : es.all f0 = true := by rfl) : Ev G K ρ σ (.Tuple es n p) (.tup xs) := fun A env F s E k => by
 refine Tuple_ ?_
 rw [m6 p env hs]
 exact h.bind k fun vs F₁ s₁ S₁ r k₁ => E3 S₁ (N1 k₁.rm r hl)
noncomputable def F3 : PySem.Expr → Bool
 | .Slice .. => false
 | _ => true
theorem M8 {slice : PySem.Expr} (h : F3 slice = true) (o i : Value) : subscripted slice false o i = operate [o, i] (getItem o i) := by
 cases slice <;> first | rfl | cases h
theorem ad3 {T id : String} (hl : typeLookup (.type T) "__getitem__" = pure (some (.builtin id))) (h1 : Ev G K ρ σ l x) (h2 : Ev G K ρ σ r (.int i)) (hn : F3 r = true)
  (h : ∀ A env F s E v t, EOk G K A env ρ σ F s → Rel F x v → s.TypeIs v T ∧ wpAny G.M A (getItem v (.int i t)) (PV G.x F s z) E s) : Ev G K ρ σ (.Subscript l r p) z :=
 fun A env F s E k => Subscript_ (h1.bind k fun v F₁ s₁ S₁ r₁ k₁ => h2.bind k₁ fun w F₂ s₂ S₂ r₂ k₂ => r₂.elim fun t e => by
  subst e
  have hw := h A env F₂ s₂ E v t k₂ (r₁.mono S₂.up)
  exact tail_any hw.1 hl (E3 (S₁.trans S₂) hw.2) (M8 hn _ _))
theorem av8 (h1 : Ev G K ρ σ l (.str a)) (h2 : Ev G K ρ σ r (.int i)) (h0 : 0 ≤ i) (hi : i < a.length) (hz : a.length < 2 ^ 62) (hn : F3 r = true := by rfl) : Ev G K ρ σ (.Subscript l r p) (.str [a.getD i.toNat 0]) := by
 refine ad3 F.slot_str_getitem.lookup h1 h2 hn ?_
 rintro A env F s E _ t k ⟨u, rfl⟩
 refine ⟨typeIs_str s _ u, P.getItem_str (c := a.getD i.toNat 0) ?_ ?_ (s7 k.rm _ ⟨_, rfl⟩)⟩
 ·rw [decide_eq_false (by exact bS7 h0), decide_eq_false (by exact bS6 hi hz)]; rfl
 ·rw [G4, seqIndex_of h0 hi]
  have : i.toNat < a.length := by exact bK3 h0 hi
  simp [this]
theorem B2 (h1 : Ev G K ρ σ l (.lst xs)) (h2 : Ev G K ρ σ r (.int i)) (h0 : 0 ≤ i) (hi : i < 2 ^ 62) (hz : xs[i.toNat]? = some z) (hn : F3 r = true := by rfl) : Ev G K ρ σ (.Subscript l r p) z :=
 ad3 slot_list_getitem.lookup h1 h2 hn fun A env F s E v t k rv => by
  obtain ⟨b, vs, rfl, hl, _, rl⟩ := J5 k.rm rv
  exact ⟨hl.typeIs, (rl.get hz).elim fun v' q => wpAny_getItem_list hl h0 (Int.lt_trans hi (by decide)) (by simpa using q.1) (J0 k q.2)⟩
theorem aB4 {vs : List Value} (hz : xs.getLast? = some z) {F : Fz} (rl : RelL F xs vs) : 1 ≤ vs.length ∧ ∃ v, vs[((-1 : Int) + vs.length).toNat]? = some v ∧ Rel F z v := by
 rw [List.getLast?_eq_getElem?] at hz
 have h1 := (List.getElem?_eq_some_iff.mp hz).1
 have e := rl.length
 refine ⟨by exact z3 _ _ _ (.k 1 c8 d5 (.k 1 D9 c8 .o)) k9 d5 tt (Nat.le_of_eq (Eq.symm e)) (F1 (n8 _ _ (.k 1 i9 d5 .o) k9 d5 tt h1)), ?_⟩
 rw [show ((-1 : Int) + vs.length).toNat = xs.length - 1 by (exact bT7 h1 e)]
 exact rl.get hz
theorem av9 (h1 : Ev G K ρ σ l (.lst xs)) (h2 : Ev G K ρ σ r (.int (-1))) (hl : xs.length < 2 ^ 62) (hz : xs.getLast? = some z) (hn : F3 r = true := by rfl) : Ev G K ρ σ (.Subscript l r p) z :=
 ad3 slot_list_getitem.lookup h1 h2 hn fun A env F s E v t k rv => by
  obtain ⟨b, vs, rfl, hl, hn, rl⟩ := J5 k.rm rv
  obtain ⟨h1, v', hv, r'⟩ := aB4 hz rl
  exact ⟨hl.typeIs, wpAny_getItem_list_neg hl (by decide) (by rw [List.size_toArray]; exact bT6 h1 hn) (by decide) (by rw [List.size_toArray]; simpa using hv) (J0 k r')⟩
theorem Z0 {A : Around} {env : Env} {F : Fz} {s : Shared} {b : Addr} (k : EOk G K A env ρ σ F s) (h : σ b = some (.lst xs)) : ∃ vs, s.heap.IsList b (List.toArray vs) ∧ RelL F xs vs :=
 (k.lst b xs h).2.imp fun _ q => q.elim fun n q => ⟨⟨_, q.1, rfl, n, rfl⟩, q.2⟩
theorem aa4 {b : Addr} (h1 : Ev G K ρ σ l (.ref b)) (h2 : Ev G K ρ σ r (.int (-1))) (hb : σ b = some (.lst xs)) (hz : xs.getLast? = some z) (hn : F3 r = true := by rfl) : Ev G K ρ σ (.Subscript l r p) z :=
 ad3 slot_list_getitem.lookup h1 h2 hn fun A env F s E v t k rv => by
  cases show v = .ref b from rv
  obtain ⟨vs, hl, rl⟩ := Z0 k hb
  obtain ⟨h1, v', hv, r'⟩ := aB4 hz rl
  exact ⟨hl.typeIs, wpAny_getItem_list_neg hl (by decide) (by rw [List.size_toArray]; exact bT5 h1) (by decide) (by rw [List.size_toArray]; simpa using hv) (J0 k r')⟩
theorem bq6 (h1 : Ev G K ρ σ l (.scr xs)) (h2 : Ev G K ρ σ r (.int i)) (h0 : 0 ≤ i) (hi : i < 2 ^ 62) (hz : xs[i.toNat]? = some z) (hn : F3 r = true := by rfl) : Ev G K ρ σ (.Subscript l r p) z :=
 ad3 slot_list_getitem.lookup h1 h2 hn fun A env F s E v t k rv => by
  obtain ⟨b, vs, rfl, ⟨o, ho, q⟩, rl⟩ := rv
  have hl : s.heap.IsList b vs.toArray := ⟨o, k.rm.sub _ _ ho, q⟩
  exact ⟨hl.typeIs, (rl.get hz).elim fun v' q => wpAny_getItem_list hl h0 (Int.lt_trans hi (by decide)) (by simpa using q.1) (J0 k q.2)⟩
theorem o6 (h1 : Ev G K ρ σ l (.tup xs)) (h2 : Ev G K ρ σ r (.int i)) (h0 : 0 ≤ i) (hi : i < 2 ^ 62) (hz : xs[i.toNat]? = some z) (hn : F3 r = true := by rfl) : Ev G K ρ σ (.Subscript l r p) z :=
 ad3 slot_tuple_getitem.lookup h1 h2 hn fun A env F s E v t k rv => by
  obtain ⟨b, vs, rfl, ⟨n, ho⟩, rl⟩ := rv
  have ht : IsTup s.heap b vs.toArray := ⟨_, k.rm.sub _ _ ho, rfl, n, rfl⟩
  have h1 := (List.getElem?_eq_some_iff.mp hz).1
  exact ⟨ht.typeIs, (rl.get hz).elim fun v' q => getItem_tuple ht (by exact bT2 h0) (by exact bT1 hi) (by rw [List.size_toArray, rl.length]; exact seqIndex_of h0 (by exact bT0 h0 h1)) (by simpa using q.1) (J0 k q.2)⟩
noncomputable def w8 (o : Option Int) (dflt n : Nat) : Nat :=
 match o with
 | none => dflt
 | some i => if i < 0 then (i + n).toNat else min i.toNat n
noncomputable def slice {α : Type} (xs : List α) (lo hi : Option Int) : List α := (xs.take (w8 hi xs.length xs.length)).drop (w8 lo 0 xs.length)
theorem as1 (o : Option Int) (d n : Nat) (hd : d ≤ n) : w8 o d n ≤ n := by
 unfold w8
 split
 ·exact hd
 ·split <;> (first | exact bT4 ‹_› | exact bT3 )
theorem by5 (lo hi : Option Int) (n : Nat) : Builtin.Str.strSliceIndices lo hi 1 n = (List.range (w8 hi n n - w8 lo 0 n)).map (w8 lo 0 n + ·) := by
 rw [← sliceRange_one]
 unfold Builtin.Str.strSliceIndices
 simp only [show (1 : Int) > 0 by decide, if_true]
 congr 1
 ·cases lo with
  | none => rfl
  | some i => simp only [w8]; split <;> (first | exact a10 ‹_› | exact a11 ‹_›)
 ·cases hi with
  | none => rfl
  | some i => simp only [w8]; split <;> (first | exact a10 ‹_› | exact a11 ‹_›)
theorem aH0 {α : Type} (xs : List α) (lo hi : Option Int) (h : w8 hi xs.length xs.length - w8 lo 0 xs.length = xs.length) : slice xs lo hi = xs := by
 have h1 := as1 hi xs.length xs.length (Nat.le_refl _)
 have h2 := as1 lo 0 xs.length (Nat.zero_le _)
 unfold slice
 by_cases h0 : xs.length = 0
 ·rw [List.eq_nil_of_length_eq_zero h0]; simp
 ·rw [show w8 lo 0 xs.length = 0 by exact bS9 h h1 h0, show w8 hi xs.length xs.length = xs.length by (exact bS8 h h1)]; simp
theorem aA5 {vl : Value} {o : Option Int} (p : IsPart vl o) : ∃ l : Option (Int × Tok), vl = partValue l ∧ l.map (·.1) = o := by
 cases p with
 | none => exact ⟨none, rfl, rfl⟩
 | int i t => exact ⟨some (i, t), rfl, rfl⟩
theorem at1 {A : Around} {F : Fz} {s : Shared} {E : Value → Shared → Prop} {t : Tok} {sl : Addr} {vl vu : Value} {lo hi : Option Int} (R : Rm G A F s) (pl : IsPart vl lo) (pu : IsPart vu hi)
  (hs : ∃ o, s.heap.get? sl = some o ∧ o.cls = .type "slice" ∧ o.data = .fields #[vl, vu, .none]) (hl : a.length ≤ sizeLine) : wpAny G.M A (getItem (.str ⟨a.toArray⟩ t) (.ref sl)) (PV G.x F s (.str (slice a lo hi))) E s := by
 obtain ⟨l, rfl, el⟩ := aA5 pl
 obtain ⟨u, rfl, eu⟩ := aA5 pu
 refine wpAny_getItem_str_slice (l := l) (u := u) (st := none) hs rfl ?_
 have hp : slicePicked ⟨a.toArray⟩ l u none = (List.range (w8 hi a.length a.length - w8 lo 0 a.length)).map (w8 lo 0 a.length + ·) := by
  unfold slicePicked
  rw [el, eu, G4]
  exact by5 lo hi a.length
 unfold sliceMade
 rw [hp, G4]
 split
 ·rename_i hc
  rw [aH0 a lo hi (by simpa using hc)]
  exact s7 R s.toks ⟨_, rfl⟩
 ·have e : ((List.range (w8 hi a.length a.length - w8 lo 0 a.length)).map (w8 lo 0 a.length + ·)).filterMap (fun x => (⟨a.toArray⟩ : Str).cps[x]?) = slice a lo hi := by
   have := pick_run a.toArray (w8 lo 0 a.length) (w8 hi a.length a.length - w8 lo 0 a.length)
   unfold slice
   rw [List.drop_take]
   simpa using this
  rw [e]
  refine aB1 R (Nat.le_trans ?_ hl)
  unfold slice
  rw [List.length_drop, List.length_take]
  exact Nat.le_trans (Nat.sub_le _ _) (Nat.min_le_right _ _)
def EvO (G : Gl) (K : Sx) (ρ : List V) (σ : Ow) (e : Option PySem.Expr) (o : Option Int) : Prop :=
 ∀ A env F s E R, EOk G K A env ρ σ F s → (∀ v F' s', St G.x N0 F s F' s' → IsPart v o → EOk G K A env ρ σ F' s' → R v s') → wpAny G.M A (evalPart e env) R E s
theorem z9 : EvO G K ρ σ none none := fun A env F s E R k h => wpAny_evalPart_none (h _ F s (.refl k.rm.sub) .none k)
theorem w7 (h1 : Ev G K ρ σ e (.int i)) : EvO G K ρ σ (some e) (some i) := fun A env F s E R k h =>
 wpAny_evalPart_some (h1.bind k fun v F₁ s₁ S₁ r₁ k₁ => r₁.elim fun t e => h v F₁ s₁ S₁ (e ▸ .int i t) k₁)
theorem E9 {lo hi : Option PySem.Expr} {m n : Option Int} (h1 : Ev G K ρ σ l (.str a)) (h2 : EvO G K ρ σ lo m) (h3 : EvO G K ρ σ hi n) (hl : a.length ≤ sizeLine) : Ev G K ρ σ (.Subscript l (.Slice lo hi none q) p) (.str (slice a m n)) :=
 fun A env F₀ s E k => Subscript_ (h1.bind k fun v F₁ s₁ S₁ r₁ k₁ => wpAny_Slice (h2 A env F₁ s₁ E _ k₁ fun vl F₂ s₂ S₂ pl k₂ => h3 A env F₂ s₂ E _ k₂ fun vu F₃ s₃ S₃ pu k₃ => wpAny_evalPart_none (r₁.elim fun t e => by
  subst e
  have S₄ : St G.x N0 F₃ s₃ F₃ { s₃ with heap := s₃.heap.push { cls := .type "slice", data := .fields #[vl, vu, .none] } } := St.grow k₃.rm.sub fun _ _ e => Heap.get?_push_of_some _ e
  refine tail_any (ops := [.ref s₃.heap.objs.size, .str ⟨a.toArray⟩ t]) (typeIs_str _ _ t) F.slot_str_getitem.lookup ?_ rfl
  exact E3 (((S₁.trans S₂).trans S₃).trans S₄) (at1 (k₃.rm.step S₄) pl pu ⟨_, Heap.get?_push_size _ rfl, rfl, rfl⟩ hl))))
end
section
variable {M : Model} {A : Around} {E : Value → Shared → Prop} {s : Shared}
theorem l8 {f : Value} {args : List (Bool × Sem Value)} {Q : Args → Shared → Prop} (hp : args.all (fun x => !x.1) = true) (h : wpAny M A (spliced args) (fun vs s' => Q ⟨vs, []⟩ s') E s) :
  wpAny M A (evalArgs f true args []) Q E s := by
 cases args with
 | nil =>
  unfold evalArgs
  show wpAny M A (spliced [] >>= _) Q E s
  exact wpAny_bind (wpAny_mono h (fun vs s' h' => wpAny_bind (wpAny_pure (wpAny_holding (wpAny_bind (wpAny_pure (wpAny_bind (wpAny_pure (wpAny_pure h')))))))) fun _ _ x => x)
 | cons x rest =>
  obtain ⟨b, t⟩ := x
  cases b with
  | true => exact nomatch hp
  | false => exact Calls.evalArgs_plain h
end
theorem o8 (es : List PySem.Expr) (env : Env) : (es.map fun e => (false, eval e env)).all (fun x => !x.1) = true := by simp
theorem K6 (es : List PySem.Expr) (env : Env) : (es.map fun e => (false, eval e env)).any (·.1) = false := by simp
section
variable {G : Gl} {K : Sx} {ρ : List V} {σ : Ow} {e l r : PySem.Expr} {es : List PySem.Expr} {x y z : V} {p q : Pos} {b c : Bool} {i j : Int} {a a' : List Nat} {xs ys : List V} {A : Around} {env : Env} {F : Fz} {s : Shared} {E : Value → Shared → Prop} {f : Str}
theorem ar7 (n : Nat) {id : String} (hb : aD7[n]? = some (f, .builtin id)) (hg : j8 K f = true) (hs : es.all f0 = true) (ha : EvL G K ρ σ es xs)
  (h : ∀ A env F s E vs, EOk G K A env ρ σ F s → RelL F xs vs → wpAny G.M A (call (.builtin id) vs) (PV G.x F s z) E s) : Ev G K ρ σ (.Call (.Name f q) es [] p) z := fun A env F s E k => by
 refine wpAny_Call_NameR (n7 k (.inr (k.rm.go.blt n f _ hb)) hg ?_)
 rw [m6 p env hs]
 exact Calls.callWith_builtin (K6 es env) (l8 (o8 es env) (ha.bind k fun vs F₁ s₁ S₁ r₁ k₁ => E3 S₁ (h A env F₁ s₁ E vs k₁ r₁)))
theorem am5 (n : Nat) {T : String} (hb : aD7[n]? = some (f, .type T)) (hg : j8 K f = true) (hs : es.all f0 = true) (ha : EvL G K ρ σ es xs)
  (h : ∀ A env F s E vs, EOk G K A env ρ σ F s → RelL F xs vs → wpAny G.M A (call (.type T) vs) (PV G.x F s z) E s) : Ev G K ρ σ (.Call (.Name f q) es [] p) z := fun A env F s E k => by
 refine wpAny_Call_NameR (n7 k (.inr (k.rm.go.blt n f _ hb)) hg ?_)
 rw [m6 p env hs]
 exact PyProof.Rows.callWith_type (K6 es env) (l8 (o8 es env) (ha.bind k fun vs F₁ s₁ S₁ r₁ k₁ => E3 S₁ (h A env F₁ s₁ E vs k₁ r₁)))
theorem ag0 {vs : List Value} (r : RelL F [x] vs) : ∃ v, vs = [v] ∧ Rel F x v := r.imp fun v q => q.elim fun ws q => ⟨q.1.trans (congrArg _ q.2.2), q.2.1⟩
theorem X7 (h : ∀ A env F s E v, EOk G K A env ρ σ F s → Rel F x v → wpAny G.M A (call (.builtin "len") [v]) (PV G.x F s z) E s) (h1 : Ev G K ρ σ e x) (hs : f0 e = true) (hg : j8 K "len" = true) : Ev G K ρ σ (.Call (.Name "len" q) [e] [] p) z :=
 ar7 0 rfl hg (by rw [List.all_cons, hs]; rfl) (b8 h1 b9) fun A env F s E vs k r => (ag0 r).elim fun v q => q.1 ▸ h A env F s E v k q.2
theorem B9 (h1 : Ev G K ρ σ e (.str a)) (hl : a.length < 2 ^ 62) (hs : f0 e = true := by rfl) (hg : j8 K "len" = true := by decide +kernel) : Ev G K ρ σ (.Call (.Name "len" q) [e] [] p) (.int a.length) :=
 X7 (by rintro A env F s E _ k ⟨t, rfl⟩; exact P.len_str (by rw [G4]; exact fun q => (fun u1 => (f'1 _ (.k 1 i9 (.num 4611686018427387904) (.k 1 (.num 9223372036854775808) c8 .o)) tt hl u1)) (Int.ofNat_le.mp q)) (s7 k.rm _ ⟨_, rfl⟩)) h1 hs hg
theorem au8 {b : Addr} {vs : List Value} (k : EOk G K A env ρ σ F s) (hl : s.heap.IsList b vs.toArray) (hn : vs.length = xs.length) (h : xs.length < 2 ^ 62) : wpAny G.M A (call (.builtin "len") [.ref b]) (PV G.x F s (.int xs.length)) E s :=
 len_list hl (by rw [List.size_toArray]; exact Int.ofNat_lt.mpr (n8 _ _ (.k 1 c8 d5 (.k 1 y0 (.num 4611686018427387904) .o)) i9 (.num 9223372036854775808) tt (Nat.le_of_eq hn) h)) (by rw [List.size_toArray, hn]; exact s7 k.rm _ ⟨_, rfl⟩)
theorem A6 (h1 : Ev G K ρ σ e (.lst xs)) (hl : xs.length < 2 ^ 62) (hs : f0 e = true := by rfl) (hg : j8 K "len" = true := by decide +kernel) : Ev G K ρ σ (.Call (.Name "len" q) [e] [] p) (.int xs.length) :=
 X7 (fun A env F s E v k r => by obtain ⟨b, vs, rfl, h, hn, _⟩ := J5 k.rm r; exact au8 k h hn hl) h1 hs hg
theorem av7 {b : Addr} (h1 : Ev G K ρ σ e (.ref b)) (hb : σ b = some (.lst xs)) (hl : xs.length < 2 ^ 62) (hs : f0 e = true := by rfl) (hg : j8 K "len" = true := by decide +kernel) : Ev G K ρ σ (.Call (.Name "len" q) [e] [] p) (.int xs.length) :=
 X7 (fun A env F s E v k r => by cases show v = .ref b from r; obtain ⟨vs, h, hn⟩ := Z0 k hb; exact au8 k h hn.length hl) h1 hs hg
theorem aO9 (h1 : Ev G K ρ σ e (.scr xs)) (hl : xs.length < 2 ^ 62) (hs : f0 e = true := by rfl) (hg : j8 K "len" = true := by decide +kernel) : Ev G K ρ σ (.Call (.Name "len" q) [e] [] p) (.int xs.length) :=
 X7 (fun A env F s E v k r => by obtain ⟨b, vs, rfl, ⟨o, ho, t⟩, rl⟩ := r; exact au8 k ⟨o, k.rm.sub _ _ ho, t⟩ rl.length hl) h1 hs hg
theorem av6 (h1 : Ev G K ρ σ e (.tup xs)) (hl : xs.length < 2 ^ 62) (hs : f0 e = true := by rfl) (hg : j8 K "len" = true := by decide +kernel) : Ev G K ρ σ (.Call (.Name "len" q) [e] [] p) (.int xs.length) :=
 X7 (fun A env F s E v k r => by
  obtain ⟨b, vs, rfl, ⟨n, ho⟩, rl⟩ := r
  have ht : IsTup s.heap b vs.toArray := ⟨_, k.rm.sub _ _ ho, rfl, n, rfl⟩
  exact len_tuple ht (by rw [List.size_toArray, rl.length]; exact Int.ofNat_lt.mpr (o5 _ (.k 1 i9 (.num 4611686018427387904) .o) i9 (.num 9223372036854775808) tt hl)) (by rw [List.size_toArray, rl.length]; exact s7 k.rm _ ⟨_, rfl⟩)) h1 hs hg
theorem G8 (h1 : Ev G K ρ σ e (.int i)) (h2 : -(2 ^ 62) ≤ i) (h3 : i < 2 ^ 62) (hs : f0 e = true := by rfl) (hg : j8 K "range" = true := by decide +kernel) : Ev G K ρ σ (.Call (.Name "range" q) [e] [] p) (.rng 0 i) :=
 am5 2 rfl hg (by rw [List.all_cons, hs]; rfl) (b8 h1 b9) (by
  rintro A env F s E _ k ⟨_, _, rfl, ⟨t, rfl⟩, rfl⟩
  exact call_range_1 (Q1 k.rm _ _ ⟨⟨by decide, by decide, h2, h3⟩, _, _, _, _, rfl, Fz.add_self⟩ rfl))
theorem ba1 {b : Addr} {vs : List Value} (k : EOk G K A env ρ σ F s) (hu : s.heap.IsList b vs.toArray) (rl : RelL F xs vs) (h : xs.length ≤ sizeLine) : wpAny G.M A (call (.type "tuple") [.ref b]) (PV G.x F s (.tup xs)) E s := by
 refine call_tuple_list hu (fun h' hk => ?_) (by rw [List.size_toArray, rl.length]; exact h)
 have S : St G.x N0 F s F { s with heap := h', toks := s.toks } := .grow k.rm.sub hk
 exact PV.from S (Q1 (k.rm.step S) (an9 vs 0) s.toks ⟨_, vs, rfl, ⟨0, Fz.add_self⟩, rl.mono (ae0 (k.rm.step S))⟩ rfl)
theorem bf1 {b : Addr} (h1 : Ev G K ρ σ e (.ref b)) (hb : σ b = some (.lst xs)) (hl : xs.length ≤ sizeLine) (hs : f0 e = true := by rfl) (hg : j8 K "tuple" = true := by decide +kernel) : Ev G K ρ σ (.Call (.Name "tuple" q) [e] [] p) (.tup xs) :=
 am5 5 rfl hg (by rw [List.all_cons, hs]; rfl) (b8 h1 b9) (fun A env F s E vs k r => by
  obtain ⟨v, rfl, r₀⟩ := ag0 r
  cases (show v = .ref b from r₀)
  obtain ⟨vs, h, hn⟩ := Z0 k hb; exact ba1 k h hn hl)
theorem ah6 (h1 : Ev G K ρ σ e (.bool b)) (hs : f0 e = true := by rfl) (hg : j8 K "int" = true := by decide +kernel) : Ev G K ρ σ (.Call (.Name "int" q) [e] [] p) (.int (if b then 1 else 0)) :=
 am5 4 rfl hg (by rw [List.all_cons, hs]; rfl) (b8 h1 b9) (fun A env F s E vs k r => by
  obtain ⟨v, rfl, r₀⟩ := ag0 r
  cases (show v = .bool b from r₀)
  exact call_int_bool (s7 k.rm _ ⟨_, rfl⟩))
def Inst (G : Gl) (T : String) (x : V) (b : Bool) : Prop := ∀ A F s E v, Rm G A F s → Rel F x v → wpAny G.M A (call (.builtin "isinstance") [v, .type T]) (PV G.x F s (.bool b)) E s
theorem y3 (n : Nat) {T : String} {t : Str} {pt : Pos} (h : Inst G T x b) (h1 : Ev G K ρ σ e x) (hb : aD7[n]? = some (t, .type T) := by rfl) (hs : f0 e = true := by rfl) (hg : j8 K "isinstance" = true := by decide +kernel) (ht : j8 K t = true := by decide +kernel) : Ev G K ρ σ (.Call (.Name "isinstance" q) [e, .Name t pt] [] p) (.bool b) :=
 ar7 1 rfl hg (by rw [List.all_cons, hs]; rfl) (b8 h1 (b8 (bB5 n hb ht) b9)) (by
  rintro A env F s E _ k ⟨v, _, rfl, r, _, _, rfl, rfl, rfl⟩
  exact h A F s E v k.rm r)
theorem ae8 : Inst G "str" (.none) false := by rintro A F s E _ R rfl; exact IsiPair.NoneType_str (s7 R _ rfl)
theorem X6 : Inst G "str" (.int i) false := by rintro A F s E _ R ⟨_, rfl⟩; exact IsiPair.int_str (s7 R _ rfl)
theorem Q2 : Inst G "str" (.str a) true := by rintro A F s E _ R ⟨_, rfl⟩; exact IsiPair.str_str (s7 R s.toks rfl)
theorem aI4 : Inst G "str" (.tup xs) false := by rintro A F s E _ R ⟨_, _, rfl, ⟨_, h⟩, _⟩; exact IsiPair.tuple_str (R.sub _ _ h) rfl (s7 R _ rfl)
theorem aI6 : Inst G "str" (.lst xs) false := by rintro A F s E _ R ⟨_, _, rfl, ⟨_, h⟩, _⟩; exact IsiPair.list_str (R.sub _ _ h) rfl (s7 R _ rfl)
theorem al4 : Inst G "int" (.int i) true := by rintro A F s E _ R ⟨_, rfl⟩; exact IsiPair.int_int (s7 R s.toks rfl)
theorem aI5 : Inst G "int" (.tup xs) false := by rintro A F s E _ R ⟨_, _, rfl, ⟨_, h⟩, _⟩; exact IsiPair.tuple_int (R.sub _ _ h) rfl (s7 R _ rfl)
theorem aI7 : Inst G "int" (.lst xs) false := by rintro A F s E _ R ⟨_, _, rfl, ⟨_, h⟩, _⟩; exact IsiPair.list_int (R.sub _ _ h) rfl (s7 R _ rfl)
theorem aB8 : Inst G "bool" (.int i) false := by rintro A F s E _ R ⟨_, rfl⟩; exact IsiPair.int_bool (s7 R _ rfl)
theorem Z7 : Inst G "tuple" (.tup xs) true := by rintro A F s E _ R ⟨_, _, rfl, ⟨_, h⟩, _⟩; exact IsiPair.tuple_tuple (R.sub _ _ h) rfl (s7 R s.toks rfl)
theorem av1 : Inst G "tuple" (.lst xs) false := by rintro A F s E _ R ⟨_, _, rfl, ⟨_, h⟩, _⟩; exact IsiPair.list_tuple (R.sub _ _ h) rfl (s7 R _ rfl)
theorem aB7 : Inst G "list" (.tup xs) false := by rintro A F s E _ R ⟨_, _, rfl, ⟨_, h⟩, _⟩; exact IsiPair.tuple_list (R.sub _ _ h) rfl (s7 R _ rfl)
theorem ae9 : Inst G "list" (.lst xs) true := by rintro A F s E _ R ⟨_, _, rfl, ⟨_, h⟩, _⟩; exact IsiPair.list_list (R.sub _ _ h) rfl (s7 R s.toks rfl)
noncomputable def fnA (mg : Str → Option Value) (f : Str) : Addr := match mg f with | some (.ref a) => a | _ => 0
noncomputable abbrev Gl.fn (G : Gl) (f : Str) : Addr := fnA G.mg f
structure Pure (G : Gl) (f : Str) (xs : List V) (z : V) : Prop where
 is : ∃ o fd, G.mg f = some (.ref (G.fn f)) ∧ G.B.get? (G.fn f) = some o ∧ o.data = .func fd
 run : ∀ A F s E vs, Rm G A F s → RelL F xs vs → wpAny G.M A (call (.ref (G.fn f)) vs) (PV G.x F s z) E s
theorem d7 (h : Pure G f xs z) (ha : EvL G K ρ σ es xs) (hs : es.all f0 = true := by rfl) (hg : j8 K f = true := by decide +kernel) : Ev G K ρ σ (.Call (.Name f q) es [] p) z := fun A env F s E k => by
 obtain ⟨o, fd, hf, ho, hfd⟩ := h.is
 refine wpAny_Call_NameR (n7 k (.inl hf) hg ?_)
 rw [m6 p env hs]
 exact Calls.callWith_function (l8 (o8 es env) (ha.bind k fun vs F₁ s₁ S₁ r₁ k₁ => ⟨⟨k₁.rm.in _ _ ho, hfd⟩, E3 S₁ (h.run A F₁ s₁ E vs k₁.rm r₁)⟩))
theorem aQ9 (a b : List Nat) : Txt.startswith ⟨a.toArray⟩ ⟨b.toArray⟩ = b.isPrefixOf a := by
 unfold Txt.startswith
 rw [G4, G4, StrLaws.subAt_eq, G4]
 simp only [Nat.zero_add, List.drop_zero]
 rw [Bool.eq_iff_iff]
 simp only [Bool.and_eq_true, decide_eq_true_eq, beq_iff_eq, List.isPrefixOf_iff_prefix]
 constructor
 ·rintro ⟨_, h⟩; exact ⟨a.drop b.length, by have := List.take_append_drop b.length a; rw [h] at this; exact this⟩
 ·rintro ⟨c, rfl⟩; simp
theorem aB0 {n : Str} {id : String} {ap : Pos} {Q : Value → Shared → Prop} (h1 : Ev G K ρ σ e x) (hn : ∀ n env t, attributeBase e n env t = t) (hl : (ap.endLine == p.line) = true) (hs : es.all f0 = true) (h8 : es.length < 8) (k : EOk G K A env ρ σ F s)
  (hm : ∀ F s v pl Q, EOk G K A env ρ σ F s → Rel F x v → Q (.builtin id, [v]) s → wpAny G.M A (getMethod v n pl) Q E s)
  (h : ∀ v F₁ s₁, St G.x N0 F s F₁ s₁ → EOk G K A env ρ σ F₁ s₁ → Rel F₁ x v → wpAny G.M A (spliced (es.map fun e => (false, eval e env))) (fun vs s₂ => wpAny G.M A (call (.builtin id) (v :: vs)) Q E s₂) E s₁) : wpAny G.M A (eval (.Call (.Attribute e n ap) es [] p) env) Q E s := by
 rw [arm_eval_Call]
 rw [hn]
 refine wpAny_bind (h1.bind k fun v F₁ s₁ S₁ r₁ k₁ => wpAny_bind (wpAny_standAt ?_))
 rw [m6 p env hs]
 have hform : methodCallForm (es.length + ([] : List Keyword).length) (es.map fun e => (false, eval e env)) (backToKw p (keywordEach [] env)) = true := by
  show ((es.map fun e => (false, eval e env)).all (fun x => !x.1) && true && decide (es.length + 0 + 0 < 30)) = true
  rw [o8, decide_eq_true (by exact a7 h8)]; rfl
 have hpos : methodCallPos true e env ap p = pure p := by unfold methodCallPos; simp [hl]
 unfold methodCall
 rw [hform]
 refine wpAny_bind (wpAny_holding (hm F₁ s₁ v _ _ k₁ r₁ (wpAny_bind (wpAny_of_eq hpos ?_))))
 exact Calls.callWith_builtin (K6 es env) (l8 (o8 es env) (h v F₁ s₁ S₁ k₁ r₁))
theorem Z5 {n : Str} {id : String} {ap : Pos} {Q : Value → Shared → Prop} (h1 : Ev G K ρ σ e x) (hn : ∀ n env t, attributeBase e n env t = t) (hl : (ap.endLine == p.line) = true) (hs : es.all f0 = true) (h8 : es.length < 8) (ha : EvL G K ρ σ es xs) (k : EOk G K A env ρ σ F s)
  (hm : ∀ F s v pl Q, EOk G K A env ρ σ F s → Rel F x v → Q (.builtin id, [v]) s → wpAny G.M A (getMethod v n pl) Q E s)
  (h : ∀ v vs F₁ s₁, St G.x N0 F s F₁ s₁ → EOk G K A env ρ σ F₁ s₁ → Rel F₁ x v → RelL F₁ xs vs → wpAny G.M A (call (.builtin id) (v :: vs)) Q E s₁) : wpAny G.M A (eval (.Call (.Attribute e n ap) es [] p) env) Q E s :=
 aB0 h1 hn hl hs h8 k hm fun v F₁ s₁ S₁ k₁ r₁ => ha.bind k₁ fun vs F₂ s₂ S₂ r₂ k₂ => h v vs F₂ s₂ (S₁.trans S₂) k₂ (r₁.mono S₂.up) r₂
theorem aT6 {ap : Pos} (h1 : Ev G K ρ σ e (.str a)) (h2 : Ev G K ρ σ l (.str a')) (hn : ∀ n env t, attributeBase e n env t = t := by intros; rfl) (hl : (ap.endLine == p.line) = true := by rfl) (hs : f0 l = true := by rfl) : Ev G K ρ σ (.Call (.Attribute e "startswith" ap) [l] [] p) (.bool (a'.isPrefixOf a)) := fun A env F s E k =>
 Z5 (id := "str.startswith") h1 hn hl (by rw [List.all_cons, hs]; rfl) (Nat.lt_of_sub_eq_succ rfl) (b8 h2 b9) k (by rintro F s _ pl Q k ⟨t, rfl⟩ h; exact GM.startswith h)
  (by rintro _ _ F₁ s₁ S₁ k₁ ⟨t, rfl⟩ ⟨_, _, rfl, ⟨u, rfl⟩, rfl⟩; exact SC.startswith (by rw [aQ9]; exact ⟨F₁, S₁, rfl⟩))
end
end Mine
namespace Mine
open PySem PySem.W PyProof.Rows
noncomputable def l9 (r : J6) : V := .tup [.str r.1, .int r.2]
theorem aN0 {F : Fz} {v : Value} {r : J6} (x : Rel F (l9 r) v) : ∃ a t u n, v = .ref a ∧ F a = some (an9 [.str ⟨r.1.toArray⟩ t, .int r.2 u] n) := by
 obtain ⟨a, _, rfl, ⟨n, h⟩, _, _, rfl, ⟨t, rfl⟩, _, _, rfl, ⟨u, rfl⟩, rfl⟩ := x
 exact ⟨a, t, u, n, rfl, h⟩
theorem bn2 {F : Fz} {v : Value} {r r' : J6} (x : Rel F (l9 r) v) (y : Rel F (l9 r') v) : r = r' := by
 obtain ⟨a, t, u, n, rfl, ht⟩ := aN0 x
 obtain ⟨a', t', u', n', e, ht'⟩ := aN0 y
 cases e
 have e1 := Obj.mk.inj (Option.some.inj (ht.symm.trans ht'))
 have e2 := congrArg Array.toList (Data.seq.inj e1.2.2.1).1
 have e3 := List.cons.inj e2
 have e4 := Value.str.inj e3.1
 have e5 := Value.int.inj (List.cons.inj e3.2).1
 exact Prod.ext (congrArg Array.toList (Str.mk.inj e4.1)) e5.1
section
variable {prog : Program} {w : World} {A : Around} {E : Value → Shared → Prop} {s : Shared} {F : Fz}
end
end Mine
namespace Mine
open PySem PyProof.Rows
def Own (env : Env) (b : Addr) : Prop := b = env.locals ∨ ∃ x, (x, b) ∈ env.cells
def Dm (env : Env) (σ : Ow) (b : Addr) : Prop := Own env b ∨ ∃ c, σ b = some c ∧ c.rw = true
structure FOk (G : Gl) (K : Sx) (A : Around) (env : Env) (ρ : List V) (σ : Ow) (F : Fz) (s : Shared) : Prop where
 e : EOk G K A env ρ σ F s
 top : ∃ outer, A.frames = some (env :: outer)
 apart : env.cells.Pairwise fun x y => x.2 ≠ y.2
 nodup : K.ns.Nodup
 own : ∀ x c, (x, c) ∈ env.cells → (∃ ov, s.heap.IsCell c ov) ∧ F c = none
 sep : ∀ a c, σ a = some c → ¬ Own env a ∧ (c.rw = true → L6 A a)
structure Lk (X : Bool) (env : Env) (σ : Ow) (F : Fz) (s : Shared) (σ' : Ow) (F' : Fz) (s' : Shared) : Prop where
 S : St X (Dm env σ) F s F' s'
 d : ∀ b c, σ' b = some c → (∃ c', σ b = some c' ∧ (c.rw = true → c'.rw = true)) ∨ s.heap.get? b = none
inductive Fl where
 | next
 | ret (v : V)
def bj3 (F : Fz) : Flow → Fl → Prop
 | .next, .next => True
 | .ret v, .ret x => Rel F x v
 | _, _ => False
abbrev KS := Fl → List V → Ow → Prop
inductive PS (G : Gl) (K : Sx) (A : Around) (env : Env) (σ : Ow) (F : Fz) (s : Shared) (Q : KS) (f : Flow) (s' : Shared) : Prop
 | mk (fl : Fl) (ρ' : List V) (σ' : Ow) (F' : Fz) (hf : bj3 F' f fl) (k : FOk G K A env ρ' σ' F' s') (L : Lk G.x env σ F s σ' F' s') (q : Q fl ρ' σ')
def WS (G : Gl) (K : Sx) (ss : List Stmt) (ρ : List V) (σ : Ow) (Q : KS) : Prop :=
 ∀ A env F s E, FOk G K A env ρ σ F s → wpAny G.M A (execs ss env) (PS G K A env σ F s Q) E s
def WS1 (G : Gl) (K : Sx) (st : Stmt) (ρ : List V) (σ : Ow) (Q : KS) : Prop :=
 ∀ A env F s E, FOk G K A env ρ σ F s → wpAny G.M A (exec st env) (PS G K A env σ F s Q) E s
def Kc (G : Gl) (K : Sx) (ss : List Stmt) (Q : KS) : KS := fun f ρ σ => match f with | .next => WS G K ss ρ σ Q | .ret x => Q (.ret x) ρ σ
section
variable {G : Gl} {K : Sx} {A : Around} {env : Env} {ρ ρ₁ : List V} {σ σ₁ σ₂ : Ow} {F F₁ F₂ : Fz} {s s₁ s₂ : Shared} {E : Value → Shared → Prop} {Q : KS} {e c : PySem.Expr} {ss : List Stmt} {st : Stmt} {x : V} {p q : Pos} {b : Bool}
theorem FOk.step (k : FOk G K A env ρ σ F s) (S : St G.x N0 F s F₁ s₁) : FOk G K A env ρ σ F₁ s₁ :=
 ⟨k.e.step S, k.top, k.apart, k.nodup, fun x c hc => (k.own x c hc).elim fun h1 h2 => ⟨h1.imp fun _ h => h.imp fun _ h => ⟨S.keep _ _ h.1 id (fun _ _ e => nomatch h.2.symm.trans e), h.2⟩, h1.elim fun _ h => h.elim fun _ h => S.out h2 h.1⟩, k.sep⟩
theorem Lk.trans {X : Bool} (x : Lk X env σ F s σ₁ F₁ s₁) (y : Lk X env σ₁ F₁ s₁ σ₂ F₂ s₂) : Lk X env σ F s σ₂ F₂ s₂ :=
 ⟨⟨fun a o e => y.S.up a o (x.S.up a o e), y.S.sub, fun b o e d => (x.S.keepO b o e d).elim fun o' r => (y.S.keepO b o' r.1 fun q => q.elim (fun q => d (.inl q)) fun q => q.elim fun c q => (x.d b c q.1).elim (fun t => t.elim fun c' t => d (.inr ⟨c', t.1, t.2 q.2⟩)) fun q => (nomatch e.symm.trans q)).imp fun _ t => ⟨t.1, r.2.trans t.2⟩,
  fun b o e => (x.S.live b o e).elim fun o' e' => (y.S.live b o' e'.1).imp fun _ r => ⟨r.1, e'.2.trans r.2⟩, fun b o e => (y.S.new b o e).elim (x.S.new b o) fun q => .inr (x.S.dead q), by rw [y.S.rest, x.S.rest]⟩,
  fun b c q => (y.d b c q).elim (fun q => q.elim fun c₁ q => (x.d b c₁ q.1).imp (fun t => t.imp fun _ t => ⟨t.1, fun h => t.2 (q.2 h)⟩) id) fun q => .inr (x.S.dead q)⟩
theorem Lk.no {X : Bool} (x : Lk X env σ F s σ₁ F₁ s₁) : Lk false env σ F s σ₁ F₁ s₁ := ⟨x.S.no, x.d⟩
theorem St.lk {X : Bool} (S : St X N0 F s F₁ s₁) : Lk X env σ F s σ F₁ s₁ := ⟨S.any, fun _ xs q => .inl ⟨xs, q, id⟩⟩
theorem PS.from {f : Flow} {s' : Shared} (L : Lk G.x env σ F s σ₁ F₁ s₁) (h : PS G K A env σ₁ F₁ s₁ Q f s') : PS G K A env σ F s Q f s' :=
 h.casesOn fun fl ρ' σ' F' hf k L' q => ⟨fl, ρ', σ', F', hf, k, L.trans L', q⟩
theorem Y2 {M : Model} {t : Sem Flow} (L : Lk G.x env σ F s σ₁ F₁ s₁) (h : wpAny M A t (PS G K A env σ₁ F₁ s₁ Q) E s₁) : wpAny M A t (PS G K A env σ F s Q) E s₁ := wpAny_mono h (fun _ _ q => q.from L) fun _ _ e => e
theorem FOk.here (k : FOk G K A env ρ σ F s) (h : Q .next ρ σ) : PS G K A env σ F s Q .next s := ⟨.next, ρ, σ, F, trivial, k, (St.refl k.e.rm.sub).lk, h⟩
theorem St.change {D : Addr → Prop} {q : Addr} {h' : Heap} {t : Nat} (sub : ∀ a o, F a = some o → s.heap.get? a = some o) (hq : F q = none) (hD : D q ∨ s.heap.get? q = none) (hs : Heap.ExtBut q s.heap h') (hl : ∃ o', h'.get? q = some o' ∧ ∀ o, s.heap.get? q = some o → DK o o') : St G.x D F s F { s with heap := h', toks := t } :=
 ⟨fun _ _ e => e, fun a o e => hs a o (by rintro rfl; exact nomatch hq.symm.trans e) (sub a o e), fun b o e d => ⟨o, hs b o (by rintro rfl; exact hD.elim d fun q => nomatch e.symm.trans q) e, .inl rfl⟩,
  fun b o e => (Classical.em (b = q)).elim (fun h => by subst h; exact hl.imp fun _ t => ⟨t.1, t.2 o e⟩) fun h => ⟨o, hs b o h e, .refl o⟩, fun _ _ e => .inl e, rfl⟩
theorem at2 {i j : Nat} {x w : V} (h : (ρ.set i x)[j]? = some w) : (j = i ∧ w = x) ∨ (j ≠ i ∧ ρ[j]? = some w) := by
 by_cases hj : j = i
 ·subst hj
  rw [List.getElem?_set_self'] at h
  cases e : ρ[j]? with
  | none => rw [e] at h; cases h
  | some v => rw [e] at h; cases h; exact .inl ⟨rfl, rfl⟩
 ·rw [List.getElem?_set_ne (fun e => hj e.symm)] at h; exact .inr ⟨hj, h⟩
theorem bc5 {ns : List Str} {i j : Nat} {x : Str} (hn : ns.Nodup) (hi : ns[i]? = some x) (hj : ns[j]? = some x) : i = j := by
 obtain ⟨a, ha⟩ := List.getElem?_eq_some_iff.mp hi
 obtain ⟨b, hb⟩ := List.getElem?_eq_some_iff.mp hj
 have hp := List.pairwise_iff_getElem.mp hn
 rcases Nat.lt_trichotomy i j with h | h | h
 ·exact absurd (ha.trans hb.symm) (hp i j a b h)
 ·exact h
 ·exact absurd (hb.trans ha.symm) (hp j i b a h)
theorem FOk.others {D : Addr → Prop} {h' : Heap} {t : Nat} {σ' : Ow} (k : FOk G K A env ρ σ F s) (hD : ∀ q, D q → F q = none ∧ ¬ Own env q ∧ L6 A q) (up : ∀ b o, ¬ D b → s.heap.get? b = some o → h'.get? b = some o)
  (hσ : ∀ a c, σ' a = some c → F a = none ∧ ∃ o, h'.get? a = some o ∧ OcR G.x F o c) (hsep : ∀ a c, σ' a = some c → ¬ Own env a ∧ (c.rw = true → L6 A a)) : FOk G K A env ρ σ' F { s with heap := h', toks := t } :=
 ⟨⟨⟨k.e.rm.go, k.e.rm.base, fun a o e => up a o (fun h => nS ((hD a h).1.symm.trans e)) (k.e.rm.sub a o e), k.e.rm.depth, k.e.rm.units, k.e.rm.handled, k.e.rm.frs fun L hL hF t => ⟨hF, t.imp fun o t => t.imp fun _ t => t.imp fun _ t => ⟨up L o (fun h => hL (hD L h).2.2) t.1, t.2⟩⟩⟩, k.e.sc, k.e.kind, k.e.globals, k.e.builtins, hσ,
  ⟨k.e.loc.len, k.e.loc.out, k.e.loc.vars.imp fun m r => ⟨Z1 r.1 fun o e => up _ o (fun h => (hD _ h).2.1 (.inl rfl)) e, fun i x v hx hv => ⟨(r.2 i x v hx hv).1, fun hk => ((r.2 i x v hx hv).2 hk).imp fun c u => u.imp fun ov u =>
   ⟨u.1, u.2.1.imp fun oc w => ⟨up _ _ (fun h => (hD _ h).2.1 (.inr ⟨x, mem_of_lookup u.1⟩)) w.1, w.2⟩, u.2.2⟩⟩⟩⟩⟩,
  k.top, k.apart, k.nodup, fun x c hc => (k.own x c hc).elim fun h1 h2 => ⟨h1.imp fun _ h => h.imp fun _ h => ⟨up _ _ (fun h => (hD _ h).2.1 (.inr ⟨x, hc⟩)) h.1, h.2⟩, h2⟩, hsep⟩
theorem FOk.other {q : Addr} {h' : Heap} {t : Nat} {σ' : Ow} (k : FOk G K A env ρ σ F s) (hq : F q = none) (hs : Heap.ExtBut q s.heap h') (hn : ¬ Own env q) (hf : L6 A q)
  (hσ : ∀ a c, σ' a = some c → F a = none ∧ ∃ o, h'.get? a = some o ∧ OcR G.x F o c) (hsep : ∀ a c, σ' a = some c → ¬ Own env a ∧ (c.rw = true → L6 A a)) : FOk G K A env ρ σ' F { s with heap := h', toks := t } :=
 k.others (D := (· = q)) (fun _ e => e ▸ ⟨hq, hn, hf⟩) (fun b o h e => hs b o h e) hσ hsep
theorem FOk.notOwn {q : Addr} {o : Obj} (k : FOk G K A env ρ σ F s) (ho : s.heap.get? q = some o) (h1 : ∀ es n, o.data ≠ .dict es n) (h2 : ∀ v, o.data ≠ .cell v) : ¬ Own env q := by
 rintro (rfl | ⟨x, hx⟩)
 ·obtain ⟨mm, ⟨o', es, ep, e, hd, _⟩, _⟩ := k.e.loc.vars
  rw [ho] at e; cases e; exact h1 _ _ hd
 ·obtain ⟨⟨ov, o', e, hd⟩, _⟩ := k.own x q hx
  rw [ho] at e; cases e; exact h2 _ hd
theorem O5 {v : Value} (r : Rel F x v) : RelO F x (some v) := fun _ => ⟨v, rfl, r⟩
theorem A5 {n : Str} {i : Nat} {v : Value} {R : Unit → Shared → Prop} (k : FOk G K A env ρ σ F s) (hx : w0 K i n = true) (r : Rel F x v)
  (h : ∀ h' t, FOk G K A env (ρ.set i x) σ F { s with heap := h', toks := t } → Lk G.x env σ F s σ F { s with heap := h', toks := t } → (∀ b o, ¬ Own env b → s.heap.get? b = some o → h'.get? b = some o) → R () { s with heap := h', toks := t }) : wpAny G.M A (storeName env n v) R E s := by
 obtain ⟨mm, hn, vars⟩ := k.e.loc.vars
 obtain ⟨hx, hk, _⟩ := ak8 hx
 obtain ⟨o, es, ep, ho, hd, hr⟩ := id hn
 have fin : ∀ (q : Addr) (oq : Obj) (h' : Heap) (t : Nat), s.heap.get? q = some oq → F q = none → Own env q → Heap.SameBut q s.heap h' → (∃ o', h'.get? q = some o' ∧ ∀ o, s.heap.get? q = some o → DK o o') → (∃ m, h'.Ns env.locals m ∧ ∀ (j : Nat) (y : Str) (w : V), K.ns[j]? = some y → (ρ.set i x)[j]? = some w →
   (K.sc.names.lookup y = some .local → RelO F w (m y)) ∧ (K.sc.names.lookup y = some .cell → ∃ c ov, env.cells.lookup y = some c ∧ h'.IsCell c ov ∧ RelO F w ov ∧ F c = none)) →
   (∀ x c, (x, c) ∈ env.cells → ∃ ov, h'.IsCell c ov) → R () { s with heap := h', toks := t } := fun q oq h' t hq hF ho hs hv hvars hcells =>
  h h' t ⟨⟨⟨k.e.rm.go, k.e.rm.base, fun a o e => hs.extBut a o (by rintro rfl; exact nS (hF.symm.trans e)) (k.e.rm.sub a o e), k.e.rm.depth, k.e.rm.units, k.e.rm.handled, k.e.rm.frs fun L _ hL t => ⟨hL, t.elim fun o t => t.elim fun es t => t.elim fun n t => (Classical.em (L = q)).elim (fun e => by subst e; exact hv.imp fun _ u => (u.2 o t.1 es n t.2).imp fun _ w => w.imp fun _ w => ⟨u.1, w⟩) fun e => ⟨o, es, n, hs.extBut L o e t.1, t.2⟩⟩⟩, k.e.sc, k.e.kind, k.e.globals, k.e.builtins,
    fun a c q => (k.e.own a c q).elim fun h1 h2 => ⟨h1, h2.imp fun o h2 => ⟨hs.extBut a _ (by rintro rfl; exact (k.sep _ c q).1 ho) h2.1, h2.2⟩⟩,
    ⟨by rw [List.length_set]; exact k.e.loc.len, k.e.loc.out, hvars⟩⟩, k.top, k.apart, k.nodup, fun x c hc => ⟨hcells x c hc, (k.own x c hc).2⟩, k.sep⟩
   ⟨St.change k.e.rm.sub hF (.inl (.inl ho)) hs.extBut hv, fun b xs q => .inl ⟨xs, q, id⟩⟩ fun b o hb e => hs.extBut b o (by rintro rfl; exact hb ho) e
 rcases hk with hk | hk
 ·refine wpAny_storeName_local ((O9 k.e n).trans hk) hn (fun h' hn' hs' => ?_) (by rw [k.e.kind]; rfl)
  refine fin env.locals o h' (s.toks + 1) ho k.e.loc.out (.inl rfl) hs' (hn'.imp fun _ t => t.elim fun _ t => t.elim fun _ t => ⟨t.1, fun _ _ _ _ _ => ⟨_, _, t.2.1⟩⟩) ⟨_, hn', fun j y w hy hw => ?_⟩ fun x c hc => (k.own x c hc).1.imp fun ov h => h.sameBut hs' ?_
  ·rcases at2 hw with ⟨rfl, rfl⟩ | ⟨hj, hw⟩
   ·cases hy.symm.trans hx
    exact ⟨fun _ => by rw [if_pos rfl]; exact O5 r, fun hc => nomatch hk.symm.trans hc⟩
   ·have hne : y ≠ n := by rintro rfl; exact hj (bc5 k.nodup hy hx)
    refine ⟨fun hl => by rw [if_neg hne]; exact (vars j y w hy hw).1 hl, fun hc => ((vars j y w hy hw).2 hc).imp fun c u => u.imp fun ov u => ⟨u.1, u.2.1.sameBut hs' ?_, u.2.2⟩⟩
    rintro rfl; obtain ⟨oc, hoc, hdc⟩ := u.2.1; rw [ho] at hoc; cases hoc; rw [hd] at hdc; cases hdc
  ·rintro rfl; obtain ⟨oc, hoc, hdc⟩ := h; rw [ho] at hoc; cases hoc; rw [hd] at hdc; cases hdc
 ·have hi : i < ρ.length := by rw [k.e.loc.len]; exact (List.getElem?_eq_some_iff.mp hx).1
  obtain ⟨c, ov, h1, h2, h3, h4⟩ := (vars i n _ hx (List.getElem?_eq_getElem hi)).2 hk
  refine wpAny_storeName_cell k.e.kind ((O9 k.e n).trans hk) h1 h2 fun h' hn' hs' => ?_
  obtain ⟨oc, hoc, hdc⟩ := id h2
  have hcl : env.locals ≠ c := by rintro rfl; rw [ho] at hoc; cases hoc; rw [hd] at hdc; cases hdc
  refine fin c oc h' s.toks hoc h4 (.inr ⟨n, mem_of_lookup h1⟩) hs' (hn'.imp fun _ h => ⟨h.1, fun o e es n t => by cases hoc.symm.trans e; exact nomatch hdc.symm.trans t⟩) ⟨mm, hn.sameBut hs' hcl, fun j y w hy hw => ?_⟩ fun x d hc => ?_
  ·rcases at2 hw with ⟨rfl, rfl⟩ | ⟨hj, hw⟩
   ·cases hy.symm.trans hx
    exact ⟨fun hl => (nomatch hk.symm.trans hl), fun _ => ⟨c, some v, h1, hn', O5 r, h4⟩⟩
   ·have hne : y ≠ n := by rintro rfl; exact hj (bc5 k.nodup hy hx)
    refine ⟨(vars j y w hy hw).1, fun hc => ((vars j y w hy hw).2 hc).imp fun c' u => u.imp fun ov u => ⟨u.1, u.2.1.sameBut hs' ?_, u.2.2⟩⟩
    rintro rfl; exact hne (name_of_addr k.apart (mem_of_lookup u.1) (mem_of_lookup h1))
  ·exact (Classical.em (d = c)).elim (fun e => e ▸ ⟨_, hn'⟩) fun e => (k.own x d hc).1.imp fun _ h => h.sameBut hs' e
theorem d6 (h : Q .next ρ σ) : WS G K [] ρ σ Q := fun A env F s E k => wpAny_execs_nil (k.here h)
theorem w4 (h1 : WS1 G K st ρ σ (Kc G K ss Q)) : WS G K (st :: ss) ρ σ Q := fun A env F s E k =>
 wpAny_execs_cons (wpAny_mono (h1 A env F s E k) (fun f s₁ h => h.casesOn fun fl ρ' σ' F' hf k' L q => by
  cases f <;> cases fl <;> first | exact hf.elim | skip
  ·exact Y2 L (q A env F' s₁ E k')
  ·exact ⟨_, ρ', σ', F', hf, k', L, q⟩) fun _ _ e => e)
theorem i8 (i : Nat) {n : Str} (h1 : Ev G K ρ σ e x) (h2 : WS G K ss (ρ.set i x) σ Q) (hx : w0 K i n = true := by decide +kernel) (hsw : ∀ env, env.scope = K.sc → swapsWith e (some (.Name n q)) p.line env = pure false := by intros; rfl) : WS G K (.Assign [.Name n q] e p :: ss) ρ σ Q :=
 w4 fun A env F s E k => wpAny_Assign_Name (h1.bind k.e fun v F₁ s₁ S r k₁ => A5 (k.step S) hx r fun h' t k₂ L _ => ⟨.next, _, σ, F₁, trivial, k₂, (St.lk S).trans L, h2⟩) (hsw env k.e.sc)
theorem g8 (h1 : Ev G K ρ σ e x) (h : Q (.ret x) ρ σ) : WS G K (.Return (some e) p :: ss) ρ σ Q :=
 w4 fun A env F s E k => wpAny_Return_some (h1.bind k.e fun v F₁ s₁ S r k₁ => ⟨.ret x, ρ, σ, F₁, r, k.step S, S.lk, h⟩)
theorem aL5 (h : Q (.ret .none) ρ σ) : WS G K (.Return none p :: ss) ρ σ Q :=
 w4 fun A env F s E k => wpAny_Return_none ⟨.ret .none, ρ, σ, F, rfl, k, (St.refl k.e.rm.sub).lk, h⟩
theorem f8 {a b' : List Stmt} (h1 : Tr G K ρ σ c b) (ht : b = true → WS G K a ρ σ (Kc G K ss Q))
  (hf : b = false → WS G K b' ρ σ (Kc G K ss Q)) : WS G K (.If c a b' p :: ss) ρ σ Q :=
 w4 fun A env F s E k => wpAny_If (h1.bind k.e fun F₁ s₁ S k₁ => by
  cases b
  ·exact Y2 S.lk (hf rfl A env F₁ s₁ E (k.step S))
  ·exact Y2 S.lk (ht rfl A env F₁ s₁ E (k.step S)))
theorem ag6 {Q' : KS} (h : WS G K ss ρ σ Q) (hq : ∀ f ρ σ, Q f ρ σ → Q' f ρ σ) : WS G K ss ρ σ Q' := fun A env F s E k =>
 wpAny_mono (h A env F s E k) (fun _ _ q => q.casesOn fun fl ρ' σ' F' hf k' L q => ⟨fl, ρ', σ', F', hf, k', L, hq _ _ _ q⟩) fun _ _ e => e
end
def Kl (I : Nat → List V → Ow → Prop) (n : Nat) (Q : KS) : KS := fun f ρ σ => match f with | .next => ∃ k, k < n ∧ I k ρ σ | .ret x => Q (.ret x) ρ σ
def Kf (I : Nat → List V → Ow → Prop) (n : Nat) (Q : KS) : KS := fun f ρ σ => match f with | .next => I n ρ σ | .ret x => Q (.ret x) ρ σ
section
variable {G : Gl} {K : Sx} {A : Around} {env : Env} {ρ ρ₁ : List V} {σ σ₀ σ₁ σ₂ : Ow} {F F₀ F₁ F₂ : Fz} {s s₀ s₁ s₂ : Shared} {E : Value → Shared → Prop} {Q : KS} {e c t : PySem.Expr} {ss body : List Stmt} {st : Stmt} {x y z : V} {p q : Pos} {b : Bool} {xs ys : List V}
theorem ax9 (I : Nat → List V → Ow → Prop) (n : Nat) (h0 : I n ρ σ) (turn : ∀ n ρ σ, I n ρ σ → ∃ b, Tr G K ρ σ c b ∧ (b = true → WS G K body ρ σ (Kl I n Q)) ∧ (b = false → WS G K ss ρ σ Q)) : WS G K (.While c body [] p :: ss) ρ σ Q :=
 w4 fun A env F s E k => wpAny_While (codeAny_whileLoop (fun m s' => ∃ ρ' σ' F', FOk G K A env ρ' σ' F' s' ∧ Lk G.x env σ F s σ' F' s' ∧ I m ρ' σ') (by
  rintro m s' ⟨ρ', σ', F', k', L', hI⟩
  obtain ⟨b, h1, h2, h3⟩ := turn m ρ' σ' hI
  refine h1.bind k'.e fun F₁ s₁ S k₁ => ?_
  cases b
  ·exact wpAny_execs_nil ⟨.next, ρ', σ', F₁, trivial, k'.step S, L'.trans S.lk, h3 rfl⟩
  ·refine wpAny_mono (h2 rfl A env F₁ s₁ _ (k'.step S)) (fun f s₂ h => h.casesOn fun fl ρ₂ σ₂ F₂ hf k₂ L₂ q => ?_) fun _ _ e => e
   cases f <;> cases fl <;> first | exact hf.elim | skip
   ·exact q.imp fun _ q => ⟨q.1, ρ₂, σ₂, F₂, k₂, (L'.trans S.lk).trans L₂, q.2⟩
   ·exact ⟨_, ρ₂, σ₂, F₂, hf, k₂, (L'.trans S.lk).trans L₂, q⟩) n ⟨ρ, σ, F, k, (St.refl k.e.rm.sub).lk, h0⟩)
noncomputable def aq7 : List String := ["enumerate", "zip", "dict_itemiterator", "dict_reverseitemiterator", "odict_iterator", "itertools.zip_longest", "itertools.pairwise"]
noncomputable def K2 : V → Option (List V)
 | .tup xs | .lst xs | .scr xs => some xs
 | .rng a b => some ((List.range (b - a).toNat).map fun (i : Nat) => V.int (a + (i : Int)))
 | .str s => some (s.map fun c => .str [c])
 | _ => none
structure It (G : Gl) (A : Around) (F : Fz) (it : Addr) (xs : List V) (P : Nat → Heap → Prop) : Prop where
 keep : ∀ i h h', P i h → (∀ a o, F a = some o → h.get? a = some o) → (∀ a o, F a = some o → h'.get? a = some o) → (∀ o, h.get? it = some o → h'.get? it = some o) → P i h'
 item : ∀ (i : Nat) s Q E y, xs[i]? = some y → P i s.heap → (∀ v h' tk, Rel F y v → P (i + 1) h' → Heap.ExtBut it s.heap h' → Q (some v) { s with heap := h', toks := tk }) → wpAny G.M A (pyNext (.ref it)) Q E s
 done : ∀ s Q E, P xs.length s.heap → (∀ h' tk, Heap.ExtBut it s.heap h' → Q none { s with heap := h', toks := tk }) → wpAny G.M A (pyNext (.ref it)) Q E s
 self : ∀ i s Q E, P i s.heap → Q (.ref it) s → wpAny G.M A (pyIter (.ref it)) Q E s
 obj : ∀ i h, P i h → ∃ o T vs, h.get? it = some o ∧ o.cls = .type T ∧ o.data = .fields vs ∧ aq7.contains T = false
theorem aq9 {it : Addr} {fp : List Addr} {n : Nat} {P : Nat → Value → Prop} {T : Nat → Heap → Prop} (W : Walks G.prog G.w A it fp [it] n P T) (hn : xs.length = n) (hfp : ∀ b ∈ fp, b ≠ it → ∃ o, F b = some o)
  (hP : ∀ (i : Nat) y v, xs[i]? = some y → P i v → Rel F y v) (hobj : ∀ i h, T i h → ∃ o T vs, h.get? it = some o ∧ o.cls = .type T ∧ o.data = .fields vs ∧ aq7.contains T = false) : It G A F it xs T where
 keep i h h' t h1 h2 h3 := W.frame i h h' t fun b hb o e => (Classical.em (b = it)).elim (fun q => by subst q; exact h3 o e) fun q => (hfp b hb q).elim fun o' e' => (e.symm.trans (h1 b o' e')) ▸ h2 b o' e'
 item i s Q E y hy t k := W.item i s Q E (hn ▸ (List.getElem?_eq_some_iff.mp hy).1) t fun v h' tk hp t' hk => k v h' tk (hP i y v hy hp) t' fun b o hb e => hk b o (fun q => hb (List.mem_singleton.mp q)) e
 done s Q E t k := W.done s Q E (hn ▸ t) fun h' tk hk => k h' tk fun b o hb e => hk b o (fun q => hb (List.mem_singleton.mp q)) e
 self := W.self
 obj := hobj
theorem aO3 {v : Value} {R : Value → Shared → Prop} (hi : K2 x = some xs) (k : Rm G A F s) (r : Rel F x v)
  (h : ∀ ob P, It G A F s.heap.objs.size xs P → P 0 (s.heap.push ob) → R (.ref s.heap.objs.size) { s with heap := s.heap.push ob }) : wpAny G.M A (pyIter v) R E s := by
 have ne : ∀ {a : Addr} {o : Obj}, F a = some o → a ≠ s.heap.objs.size := fun e => by rintro rfl; exact nS ((j9 s.heap).symm.trans (k.sub _ _ e))
 have one : ∀ {a it : Addr} {o : Obj}, F a = some o → ∀ b ∈ [it, a], b ≠ it → ∃ o, F b = some o := fun e b hb hn => by
  rcases List.mem_cons.mp hb with q | q
  ·exact absurd q hn
  ·cases List.mem_singleton.mp q; exact ⟨_, e⟩
 have lst : ∀ {a : Addr} {o : Obj} {vs : List Value}, F a = some o → (o.cls = .type "list" ∧ ∃ n, o.data = .seq vs.toArray n) → RelL F xs vs → wpAny G.M A (pyIter (.ref a)) R E s := fun {a o vs} e q rl =>
  have hl : s.heap.IsList a vs.toArray := ⟨o, k.sub _ _ e, q⟩
  wpAny_pyIter_list hl (h _ _ (aq9 (Walks.list k.handled _ a (ne e) vs.toArray) (by rw [List.size_toArray, rl.length]) (one e) (fun i y v hy hv => (rl.get hy).elim fun v' q => by
   have : vs[i]? = some v := by simpa using hv
   cases this.symm.trans q.1; exact q.2) fun i h t => t.1.elim fun o q => ⟨o, _, _, q.1, q.2.1, q.2.2, rfl⟩) ⟨⟨_, Heap.get?_push_size _ rfl, rfl, rfl⟩, hl.push _⟩)
 cases x <;> first | (cases hi; done) | (cases hi; skip)
 case str a =>
  obtain ⟨t, rfl⟩ := r
  have hP : ∀ (i : Nat) y v, (a.map fun c => V.str [c])[i]? = some y → SignAt ⟨a.toArray⟩ i v → Rel F y v := by
   rintro i y v hy ⟨c, u, hc, rfl⟩
   have hc : a[i]? = some c := by simpa using hc
   rw [List.getElem?_map, hc] at hy
   cases hy; exact ⟨u, rfl⟩
  have ob : ∀ T, aq7.contains T = false → ∀ i (h : Heap), h.IsStrIter s.heap.objs.size T ⟨a.toArray⟩ t i → ∃ o T vs, h.get? s.heap.objs.size = some o ∧ o.cls = .type T ∧ o.data = .fields vs ∧ aq7.contains T = false :=
   fun T hT i h q => q.elim fun o q => ⟨o, _, _, q.1, q.2.1, q.2.2, hT⟩
  cases ha : (⟨a.toArray⟩ : Str).cps.all (· < 128)
  ·exact wpAny_pyIter_wide ha (h _ _ (aq9 (Walks.strWide k.handled _ _ t) (by simp) (fun b hb hn => absurd (List.mem_singleton.mp hb) hn) hP (ob _ rfl)) ⟨_, Heap.get?_push_size _ rfl, rfl, rfl⟩)
  ·exact wpAny_pyIter_ascii ha (h _ _ (aq9 (Walks.strAscii k.handled _ _ t) (by simp) (fun b hb hn => absurd (List.mem_singleton.mp hb) hn) hP (ob _ rfl)) ⟨_, Heap.get?_push_size _ rfl, rfl, rfl⟩)
 case tup =>
  obtain ⟨a, vs, rfl, ⟨n, e⟩, rl⟩ := r
  have ht : s.heap.IsTuple a vs.toArray := ⟨_, k.sub _ _ e, rfl, n, rfl⟩
  exact wpAny_pyIter_tuple ht (h _ _ (aq9 (Walks.tuple k.handled _ a (ne e) vs.toArray) (by rw [List.size_toArray, rl.length]) (one e) (fun i y v hy hv => (rl.get hy).elim fun v' q => by
   have : vs[i]? = some v := by simpa using hv
   cases this.symm.trans q.1; exact q.2) fun i h t => t.1.elim fun o q => ⟨o, _, _, q.1, q.2.1, q.2.2, rfl⟩) ⟨⟨_, Heap.get?_push_size _ rfl, rfl, rfl⟩, ht.at fun o e => Heap.get?_push_of_some _ e⟩)
 case lst =>
  obtain ⟨a, vs, rfl, ⟨n, e⟩, rl⟩ := r
  exact lst e ⟨rfl, n, rfl⟩ rl
 case scr =>
  obtain ⟨a, vs, rfl, ⟨o, e, q⟩, rl⟩ := r
  exact lst e q rl
 case rng a b =>
  obtain ⟨⟨h1, h2, h3, h4⟩, a', t, u, w, rfl, e⟩ := r
  refine wpAny_pyIter_range (k.sub _ _ e) (small_one h1 h2 h3 h4) (h _ _ (aq9 (Walks.range k.handled _ a 1 (b - a).toNat) (by simp) (fun b hb hn => absurd (List.mem_singleton.mp hb) hn) ?_ fun i h q => ⟨_, _, _, q, rfl, rfl, rfl⟩) ?_)
  ·rintro i y v hy ⟨u, rfl⟩
   have hlt : i < (b - a).toNat := by have := (List.getElem?_eq_some_iff.mp hy).1; simpa using this
   rw [List.getElem?_map, List.getElem?_range hlt] at hy
   cases hy; exact ⟨u, by rw [Int.mul_one]⟩
  ·have e : Builtin.Range.rangeSize a b 1 = ((b - a).toNat : Int) := by rw [rangeSize_one]; split <;> (first | exact bN5 ‹_› | exact bN4 ‹_›)
   rw [e]
   have := Heap.get?_push_size s.heap (o := { cls := .type "range_iterator", data := .fields #[rawInt a, rawInt ((b - a).toNat : Int), rawInt 1] }) rfl
   show Heap.get? _ _ = _
   simpa using this
theorem Lk.priv {r : Addr} {h' : Heap} {t : Nat} (L : Lk G.x env σ₀ F₀ s₀ σ F s) (hq : F r = none) (h0 : s₀.heap.get? r = none) (hs : Heap.ExtBut r s.heap h') : Lk G.x env σ₀ F₀ s₀ σ F { s with heap := h', toks := t } :=
 have ne : ∀ b o, s₀.heap.get? b = some o → b ≠ r := fun b o e => by rintro rfl; exact nS (h0.symm.trans e)
 ⟨⟨L.S.up, fun a o e => hs a o (by rintro rfl; exact nS (hq.symm.trans e)) (L.S.sub a o e), fun b o e d => (L.S.keepO b o e d).imp fun o' q => ⟨hs b o' (ne b o e) q.1, q.2⟩, fun b o e => (L.S.live b o e).imp fun o' e' => ⟨hs b o' (ne b o e) e'.1, e'.2⟩, L.S.new, by rw [L.S.rest]⟩, L.d⟩
def Asg (G : Gl) (K : Sx) (t : PySem.Expr) (y : V) (ρ ρ' : List V) : Prop := ∀ A env σ F s E v (R : Unit → Shared → Prop), FOk G K A env ρ σ F s → Rel F y v →
 (∀ h' tk, FOk G K A env ρ' σ F { s with heap := h', toks := tk } → Lk G.x env σ F s σ F { s with heap := h', toks := tk } → (∀ b o, ¬ Own env b → s.heap.get? b = some o → h'.get? b = some o) → R () { s with heap := h', toks := tk }) → wpAny G.M A (assign t env v) R E s
theorem C2 (i : Nat) {n : Str} (hx : w0 K i n = true := by decide +kernel) : Asg G K (.Name n q) y ρ (ρ.set i y) := fun A env σ F s E v R k r h => wpAny_assign_Name (A5 k hx r h)
theorem aA7 {target : PySem.Expr} {it : Addr} {v' : Value} {R : Unit → Shared → Prop} {M : Model} (ho : ∃ o T vs, s.heap.get? it = some o ∧ o.cls = .type T ∧ o.data = .fields vs ∧ aq7.contains T = false) (k : R () s) : wpAny M A (letOwnedTupleGo target (.ref it) v') R E s := by
 obtain ⟨o, T, vs, ho, hc, hd, hT⟩ := ho
 unfold aq7 at hT
 unfold letOwnedTupleGo
 split
 all_goals first
  | exact wpAny_pure k
  | (split <;> first | (rename_i heq; cases heq; refine wpAny_bind (wpAny_load ho ?_); rw [hc, hd]; simp only [hT, Bool.false_and, Bool.false_eq_true, if_false]; exact wpAny_pure k) | exact wpAny_pure k)
theorem aa0 {prog : Program} {w : World} {R : Result → Shared → Prop} {Ex : Value → Shared → Prop} {target : PySem.Expr} {it : Value} {body : List PySem.Stmt} {env : Env} {s : Shared} (I : Nat → Shared → Prop)
  (hx : ∀ v s', Ex v s' → notedBy (model prog w) A env (fun e s' => R (.error e) s') v s')
  (turn : ∀ n s, I n s → wpAny (model prog w) A (pyNext it) (fun r s₁ => match r with
   | none => R (.ok .next) s₁
   | some v => wpAny (model prog w) A (letOwnedTupleGo target it v) (fun _ s₁' => wpAny (model prog w) A (assign target env v) (fun _ s₂ => wpAny (model prog w) A (execs body env) (fun f s₃ => match f with
     | .next | .cont => ∃ m, m < n ∧ I m s₃
     | .brk => R (.ok .next) s₃
     | .ret v => R (.ok (.ret v)) s₃) Ex s₂) Ex s₁') Ex s₁) Ex s)
  (n : Nat) (h : I n s) : codeAny (model prog w) A (.forLoop target it body [] env) R s := by
 refine codeAny_loop' rfl I (fun n s hI => ?_) n h
 show wpAny _ _ ((forTurn target it body [] env).onRaise (fun x => do noteFrame x env; theTreesLotGoes x)) _ _ s
 refine wpAny_noted ?_
 simp only [forTurn]
 refine wpAny_bind (wpAny_standAt (wpAny_bind (wpAny_onRaise (wpAny_mono (wpAny_mono (turn n s hI) (fun r s₁ h₁ => h₁) hx) (fun r s₁ h₁ => ?_) fun _ _ h' => wpAny_standAt h'))))
 cases r with
 | none => exact wpAny_pure (.inr ⟨rfl, codeAny_block (wpAny_execs_nil h₁)⟩)
 | some v =>
  refine wpAny_bind (wpAny_mono h₁ (fun _ s₁' h₁' => ?_) hx)
  refine wpAny_bind (wpAny_mono h₁' (fun _ s₂ h₂ => wpAny_bind (wpAny_mono h₂ (fun f s₃ h₃ => ?_) hx)) hx)
  cases f with
  | next => exact wpAny_pure (.inl ⟨rfl, h₃⟩)
  | cont => exact wpAny_pure (.inl ⟨rfl, h₃⟩)
  | brk => exact wpAny_pure h₃
  | ret v => exact wpAny_pure h₃
theorem Lk.recs (L : Lk G.x env σ F s σ₁ F₁ s₁) (k : FOk G K A env ρ σ F s) : (∀ a o, F a = some o → F₁ a = some o) ∧ ∀ b o vs, s.heap.get? b = some o → o.data = .fields vs → F b = none → σ b = none → s₁.heap.get? b = some o ∧ F₁ b = none ∧ σ₁ b = none :=
 ⟨L.S.up, fun b o vs ho hd hF hσ => ⟨L.S.keep b o ho (fun q => q.elim (k.notOwn ho (fun _ _ e => nomatch hd.symm.trans e) fun _ e => nomatch hd.symm.trans e) fun q => q.elim fun _ q => (nS (hσ.symm.trans q.1))) (fun _ _ e => nomatch hd.symm.trans e), L.S.out hF ho, by
  cases hq : σ₁ b with
  | none => rfl
  | some xs => exact (L.d b xs hq).elim (fun q => q.elim fun _ q => nS (hσ.symm.trans q.1)) fun q => nomatch ho.symm.trans q⟩⟩
def It0 (G : Gl) (x : V) (xs : List V) : Prop := ∀ A F s E v R, Rm G A F s → Rel F x v → (∀ ob P, It G A F s.heap.objs.size xs P → P 0 (s.heap.push ob) → R (.ref s.heap.objs.size) { s with heap := s.heap.push ob }) → wpAny G.M A (pyIter v) R E s
theorem aI3 (hi : K2 x = some xs) : It0 G x xs := fun A F s E v R k r h => aO3 hi k r h
inductive ca3 (G : Gl) (K : Sx) (A : Around) (env : Env) (σ₀ : Ow) (F₀ : Fz) (s₀ : Shared) (F₁ : Fz) (it : Addr) (xs : List V) (P : Nat → Heap → Prop) (I : Nat → List V → Ow → Fz → Heap → Prop) (m : Nat) (s' : Shared) : Prop
 | mk (i : Nat) (ρ' : List V) (σ' : Ow) (F' : Fz) (hm : m + i = xs.length + 1) (hle : i ≤ xs.length) (k : FOk G K A env ρ' σ' F' s') (L : Lk G.x env σ₀ F₀ s₀ σ' F' s') (up : ∀ a o, F₁ a = some o → F' a = some o) (hF : F' it = none) (hσ : σ' it = none) (hP : P i s'.heap) (hI : I i ρ' σ' F' s'.heap)
theorem am1 {R : Flow → Shared → Prop} {Ex : Value → Shared → Prop} (I : Nat → List V → Ow → Fz → Heap → Prop) (k : FOk G K A env ρ σ F s) (L₀ : Lk G.x env σ₀ F₀ s₀ σ F s) (h1 : wpAny G.M A (eval e env) (fun v s₁ => ∃ F₁, St G.x N0 F s F₁ s₁ ∧ Rel F₁ x v ∧ I 0 ρ σ F₁ s₁.heap) E s) (hi : It0 G x xs)
  (hx : ∀ v s', Ex v s' → notedBy G.M A env (cameBackBy G.M A env E) v s')
  (stab : ∀ i ρ σ F (h h' : Heap), I i ρ σ F h → (∀ b o, h.get? b = some o → (∀ vs, o.data ≠ .fields vs) → h'.get? b = some o) → I i ρ σ F h')
  (turn : ∀ (i : Nat) ρ' σ' F' s' y v, xs[i]? = some y → FOk G K A env ρ' σ' F' s' → Lk G.x env σ₀ F₀ s₀ σ' F' s' → I i ρ' σ' F' s'.heap → Rel F' y v → wpAny G.M A (assign t env v) (fun _ s₂ => wpAny G.M A (execs body env) (fun f s₃ => ∃ fl ρ₃ σ₃ F₃, bj3 F₃ f fl ∧ FOk G K A env ρ₃ σ₃ F₃ s₃ ∧ Lk G.x env σ₀ F₀ s₀ σ₃ F₃ s₃ ∧
   ((∀ a o, F' a = some o → F₃ a = some o) ∧ ∀ b o vs, s'.heap.get? b = some o → o.data = .fields vs → F' b = none → σ' b = none → s₃.heap.get? b = some o ∧ F₃ b = none ∧ σ₃ b = none) ∧ (fl = .next → I (i + 1) ρ₃ σ₃ F₃ s₃.heap) ∧ (∀ x, fl = .ret x → R f s₃)) Ex s₂) Ex s')
  (fin : ∀ ρ' σ' F' s', FOk G K A env ρ' σ' F' s' → Lk G.x env σ₀ F₀ s₀ σ' F' s' → I xs.length ρ' σ' F' s'.heap → R .next s') (hns : ∀ v, foldedSetIterable e env v = pure v) : wpAny G.M A (exec (.For t e body [] p) env) R E s :=
 wpAny_For (wpAny_mono h1 (fun v s₁ q => q.elim fun F₁ q => hi _ _ _ _ _ _ (k.e.rm.step q.1) q.2.1 fun ob P W hP => by
  obtain ⟨S₁, r₁, h0⟩ := q
  have k₁ := k.e.step S₁
  have hn : s₁.heap.get? s₁.heap.objs.size = none := j9 _
  generalize s₁.heap.objs.size = it at *
  have S₂ : St G.x N0 F₁ s₁ F₁ { s₁ with heap := s₁.heap.push ob } := St.grow (t := s₁.toks) k₁.rm.sub fun _ _ e => Heap.get?_push_of_some _ e
  have hs : s₀.heap.get? it = none := L₀.S.dead (S₁.dead hn)
  have hF : F₁ it = none := by
   cases q : F₁ it with
   | none => rfl
   | some o => exact nS (hn.symm.trans (k₁.rm.sub _ _ q))
  refine aa0 (Ex := Ex) (ca3 G K A env σ₀ F₀ s₀ F₁ it xs P I) hx (fun m s' => ?_) (xs.length + 1)
   ⟨0, ρ, σ, F₁, rfl, Nat.zero_le _, (k.step S₁).step S₂, L₀.trans (S₁.trans S₂).lk, fun _ _ e => e, hF, ?_, hP, stab _ _ _ _ _ _ h0 fun b o e _ => Heap.get?_push_of_some _ e⟩
  ·rintro ⟨i, ρ', σ', F', hm, hle, k', L', up, hF', hσ', hP', hI⟩
   obtain ⟨oi, T, ovs, hoi, hc, hd, _⟩ := W.obj _ _ hP'
   have own : ¬ Own env it := k'.notOwn hoi (fun _ _ e => by rw [hd] at e; cases e) fun _ e => by rw [hd] at e; cases e
   have nofr : L6 A it := k'.e.rm.nofr fun o es n e h => by cases hoi.symm.trans e; exact nomatch hd.symm.trans h
   have other : ∀ {h₁ : Heap} {t₁ : Nat}, Heap.ExtBut it s'.heap h₁ → FOk G K A env ρ' σ' F' { s' with heap := h₁, toks := t₁ } ∧ Lk G.x env σ₀ F₀ s₀ σ' F' { s' with heap := h₁, toks := t₁ } ∧ ∀ j, I j ρ' σ' F' s'.heap → I j ρ' σ' F' h₁ := fun hs₁ =>
    ⟨k'.other hF' hs₁ own nofr (fun a xs q => (k'.e.own a xs q).elim fun h1 h2 => ⟨h1, h2.imp fun o h2 => ⟨hs₁ _ _ (by rintro rfl; exact nS (hσ'.symm.trans q)) h2.1, h2.2⟩⟩) k'.sep, L'.priv hF' hs hs₁, fun j h => stab j _ _ _ _ _ h fun b o e hb => hs₁ b o (by rintro rfl; cases hoi.symm.trans e; exact hb _ hd) e⟩
   rcases Nat.lt_or_ge i xs.length with hlt | hge
   ·obtain ⟨y, hy⟩ : ∃ y, xs[i]? = some y := ⟨_, List.getElem?_eq_getElem hlt⟩
    refine W.item i s' _ Ex y hy hP' fun v' h₁ t₁ hr hP₁ hs₁ => aA7 (W.obj _ _ hP₁) ?_
    obtain ⟨k₁, L₁, st⟩ := other (t₁ := t₁) hs₁
    refine wpAny_mono (turn i ρ' σ' F' _ y v' hy k₁ L₁ (st i hI) (hr.mono up)) (fun _ s₂ q => wpAny_mono q (fun f s₃ h => ?_) fun _ _ e => e) fun _ _ e => e
    obtain ⟨fl, ρ₃, σ₃, F₃, hf, k₃, L₃, ⟨u₃, rec⟩, q1, q2⟩ := h
    cases f <;> cases fl <;> first | exact hf.elim | skip
    ·obtain ⟨oi', T', vs', hoi', _, h3, _⟩ := W.obj _ _ hP₁
     obtain ⟨g1, g2, g3⟩ := rec it oi' vs' hoi' h3 hF' hσ'
     exact ⟨m - 1, by exact bD2 hm hle, i + 1, ρ₃, σ₃, F₃, by exact bD1 hm hle, hlt, k₃, L₃, fun a o e => u₃ a o (up a o e), g2, g3, W.keep _ _ _ hP₁ (fun a o e => k₁.e.rm.sub a o (up a o e)) (fun a o e => k₃.e.rm.sub a o (u₃ a o (up a o e))) fun o e => by cases hoi'.symm.trans e; exact g1, q1 rfl⟩
    ·exact q2 _ rfl
   ·cases Nat.le_antisymm hle hge
    refine W.done s' _ Ex hP' fun h₁ t₁ hs₁ => ?_
    obtain ⟨k₁, L₁, st⟩ := other (t₁ := t₁) hs₁
    exact fin ρ' σ' F' _ k₁ L₁ (st _ hI)
  ·cases hq : σ it with
   | none => rfl
   | some xs => exact (k.e.own it xs hq).2.elim fun _ q => nS ((S₁.dead hn).symm.trans q.1)) fun _ _ e => e) hns
theorem as7 (I : Nat → List V → Ow → Prop) (h1 : Ev G K ρ σ e x) (hi : It0 G x xs) (h0 : I 0 ρ σ) (turn : ∀ (i : Nat) ρ σ y, xs[i]? = some y → I i ρ σ → ∃ ρ', Asg G K t y ρ ρ' ∧ WS G K body ρ' σ (Kf I (i + 1) Q)) (fin : ∀ ρ σ, I xs.length ρ σ → WS G K ss ρ σ Q) (hns : ∀ env v, foldedSetIterable e env v = pure v := by intros; rfl) : WS G K (.For t e body [] p :: ss) ρ σ Q :=
 w4 fun A env F s E k => am1 (R := PS G K A env σ F s (Kc G K ss Q)) (fun i ρ σ _ _ => I i ρ σ) k (St.refl k.e.rm.sub).lk (h1.bind k.e fun v F₁ s₁ S r _ => ⟨F₁, S, r, h0⟩) hi (fun _ _ h => h) (fun _ _ _ _ _ _ h _ => h) (fun i ρ' σ' F' s' y v hy k' L' hI hr => by
  obtain ⟨ρ₂, ha, hb⟩ := turn i ρ' σ' y hy hI
  refine ha A env σ' F' s' _ v _ k' hr fun h₂ t₂ k₂ L₂ _ => wpAny_mono (hb A env F' _ _ k₂) (fun f s₃ h => h.casesOn fun fl ρ₃ σ₃ F₃ hf k₃ L₃ q => ⟨fl, ρ₃, σ₃, F₃, hf, k₃, L'.trans (L₂.trans L₃), (L₂.trans L₃).recs k', ?_, ?_⟩) fun _ _ e => e
  ·rintro rfl; exact q
  ·rintro x rfl; exact ⟨_, ρ₃, σ₃, F₃, hf, k₃, (L'.trans L₂).trans L₃, q⟩) (fun ρ' σ' F' s' k' L' hI => ⟨.next, ρ', σ', F', trivial, k', L', fin ρ' σ' hI⟩) (hns env)
theorem D6 (I : Nat → List V → Ow → Prop) (h1 : Ev G K ρ σ e x) (hi : K2 x = some xs) (h0 : I 0 ρ σ) (turn : ∀ (i : Nat) ρ σ y, xs[i]? = some y → I i ρ σ → ∃ ρ', Asg G K t y ρ ρ' ∧ WS G K body ρ' σ (Kf I (i + 1) Q)) (fin : ∀ ρ σ, I xs.length ρ σ → WS G K ss ρ σ Q) (hns : ∀ env v, foldedSetIterable e env v = pure v := by intros; rfl) : WS G K (.For t e body [] p :: ss) ρ σ Q :=
 as7 I h1 (aI3 hi) h0 turn fin hns
end
section
variable {G : Gl} {K : Sx} {A : Around} {env : Env} {ρ ρ₁ : List V} {σ σ₀ σ₁ σ₂ : Ow} {F F₀ F₁ F₂ : Fz} {s s₀ s₁ s₂ : Shared} {E : Value → Shared → Prop} {Q : KS} {e c l : PySem.Expr} {es : List PySem.Expr} {ss body : List Stmt} {st : Stmt} {x y z : V} {p q q' ap : Pos} {b : Bool} {xs ys : List V} {f : Str}
theorem D4 (i j : Nat) {n m : Str} {kk : Nat} (hx : w0 K i n = true := by decide +kernel) (hy : w0 K j m = true := by decide +kernel) : Asg G K (.Tuple [.Name n q, .Name m q'] kk p) (.tup [y, z]) ρ ((ρ.set i y).set j z) := by
 rintro A env σ F s E _ R k ⟨a, _, rfl, ⟨n', e⟩, v, _, rfl, r1, w, _, rfl, r2, rfl⟩ h
 refine wpAny_assign_Tuple k.e.rm.handled ⟨_, k.e.rm.sub _ _ e, rfl, n', rfl⟩ rfl rfl fun h₁ hs => ?_
 have hg : ∀ b o, s.heap.get? b = some o → h₁.get? b = some o := fun b o e => hs b o (Nat.ne_of_lt (Heap.lt_size e)) e
 have S : St G.x N0 F s F { s with heap := h₁, toks := s.toks } := .grow k.e.rm.sub hg
 refine wpAny_assignInOrder_more (wpAny_assign_Name (A5 (k.step S) hx r1 fun h₂ t₂ k₂ L₂ hk₂ => ?_))
 refine wpAny_assignInOrder_more (wpAny_assign_Name (A5 k₂ hy r2 fun h₃ t₃ k₃ L₃ hk₃ => ?_))
 exact wpAny_pure (h h₃ t₃ k₃ ((S.lk.trans L₂).trans L₃) fun b o hb e => hk₃ b o hb (hk₂ b o hb (hg b o e)))
theorem FOk.newSep {a : Addr} (k : FOk G K A env ρ σ F s) (h : s.heap.get? a = none) {p : Prop} : ¬ Own env a ∧ (p → L6 A a) := by
 refine ⟨?_, fun _ => k.e.rm.nofr fun o es n e => nS (h.symm.trans e)⟩
 rintro (rfl | ⟨z, hz⟩)
 ·obtain ⟨mm, hm, _⟩ := k.e.loc.vars
  exact (U4 hm).elim fun _ e => nS (h.symm.trans e)
 ·obtain ⟨⟨ov, oc, h1, _⟩, _⟩ := k.own z a hz
  exact nS (h.symm.trans h1)
theorem FOk.setSep {a : Addr} {c : Oc} (k : FOk G K A env ρ σ F s) (h : ¬ Own env a ∧ (c.rw = true → L6 A a)) : ∀ b d, σ.put a c b = some d → ¬ Own env b ∧ (d.rw = true → L6 A b) := fun b d q => by
 by_cases e : b = a
 ·subst e; cases (Ow.put_self ..).symm.trans q; exact h
 ·exact k.sep b d ((Ow.put_ne _ _ e).symm.trans q)
theorem FOk.fresh (k : FOk G K A env ρ σ F s) (t : Nat) : FOk G K A env ρ (σ.set s.heap.objs.size []) F { s with heap := s.heap.push (z7 [] 0), toks := t } ∧ Lk G.x env σ F s (σ.set s.heap.objs.size []) F { s with heap := s.heap.push (z7 [] 0), toks := t } := by
 have up : ∀ b o, s.heap.get? b = some o → (s.heap.push (z7 [] 0)).get? b = some o := fun b o e => Heap.get?_push_of_some _ e
 have S : St G.x N0 F s F { s with heap := s.heap.push (z7 [] 0), toks := t } := .grow k.e.rm.sub up
 have hF : F s.heap.objs.size = none := by
  cases q : F s.heap.objs.size with
  | none => rfl
  | some o => exact nS ((j9 s.heap).symm.trans (k.e.rm.sub _ _ q))
 have k' := k.step S
 refine ⟨⟨⟨k'.e.rm, k'.e.sc, k'.e.kind, k'.e.globals, k'.e.builtins, fun a xs q => ?_, k'.e.loc⟩, k'.top, k'.apart, k'.nodup, k'.own, k.setSep (k.newSep (j9 _))⟩, S.any, fun b xs q => ?_⟩
 ·by_cases h : a = s.heap.objs.size
  ·subst h; cases (Ow.set_self ..).symm.trans q; exact ⟨hF, _, Heap.get?_push_size _ rfl, [], 0, rfl, rfl⟩
  ·exact k'.e.own a xs ((Ow.set_ne _ _ h).symm.trans q)
 ·by_cases h : b = s.heap.objs.size
  ·exact .inr (h ▸ j9 _)
  ·exact .inl ⟨xs, (Ow.set_ne _ _ h).symm.trans q, id⟩
theorem FOk.sizeσ (k : FOk G K A env ρ σ F s) : σ s.heap.objs.size = none := by
 cases q : σ s.heap.objs.size with
 | none => rfl
 | some xs => exact (k.e.own _ xs q).2.elim fun _ q => nS ((j9 s.heap).symm.trans q.1)
theorem X3 (i : Nat) {n : Str} (h : ∀ a, σ a = none → WS G K ss (ρ.set i (.ref a)) (σ.set a []) Q) (hx : w0 K i n = true := by decide +kernel) : WS G K (.Assign [.Name n q] (.List [] q') p :: ss) ρ σ Q :=
 w4 fun A env F s E k => wpAny_Assign_Name (List_ (Calls.spliced_nil (wpAny_newObj_type (A5 (x := .ref s.heap.objs.size) (k.fresh s.toks).1 hx rfl fun h' t k₂ L _ => ⟨.next, _, _, F, trivial, k₂, (k.fresh s.toks).2.trans L, h _ k.sizeσ⟩) (Nat.zero_le _)))) rfl
theorem FOk.put {a : Addr} {h' : Heap} {t n : Nat} {vs : List Value} (k : FOk G K A env ρ σ F s) (ha : σ a = some (.lst xs)) (hs : Heap.ExtBut a s.heap h') (hv : h'.get? a = some (z7 vs n)) (r : RelL F ys vs) :
  FOk G K A env ρ (σ.set a ys) F { s with heap := h', toks := t } ∧ Lk G.x env σ F s (σ.set a ys) F { s with heap := h', toks := t } := by
 obtain ⟨hF, us, m, hu, _⟩ := k.e.lst a xs ha
 refine ⟨k.other hF hs (k.notOwn hu (fun _ _ e => nomatch e) fun _ e => nomatch e) (k.e.rm.nofr fun o es n e h => by cases hu.symm.trans e; cases h) (fun b zs q => ?_) (k.setSep ((k.sep a _ ha).imp id fun h _ => h rfl)), St.change k.e.rm.sub hF (.inl (.inr ⟨_, ha, rfl⟩)) hs ⟨_, hv, fun o e es n h => by cases hu.symm.trans e; cases h⟩, fun b zs q => ?_⟩
 ·by_cases h : b = a
  ·subst h; cases (Ow.set_self ..).symm.trans q; exact ⟨hF, _, hv, vs, n, rfl, r⟩
  ·exact (k.e.own b zs ((Ow.set_ne _ _ h).symm.trans q)).imp id fun q => q.imp fun _ q => ⟨hs b _ h q.1, q.2⟩
 ·by_cases h : b = a
  ·exact .inl ⟨_, h ▸ ha, fun _ => rfl⟩
  ·exact .inl ⟨zs, (Ow.set_ne _ _ h).symm.trans q, id⟩
theorem as5 {a : Addr} {v : Value} {R : Value → Shared → Prop} (k : FOk G K A env ρ σ F s) (ha : σ a = some (.lst xs)) (r : Rel F y v) (hl : xs.length ≤ sizeLine)
  (h : ∀ h', FOk G K A env ρ (σ.set a (xs ++ [y])) F { s with heap := h' } → Lk G.x env σ F s (σ.set a (xs ++ [y])) F { s with heap := h' } → R .none { s with heap := h' }) : wpAny G.M A (call (.builtin "list.append") [.ref a, v]) R E s := by
 obtain ⟨hF, vs, n, hv, rl⟩ := k.e.lst a xs ha
 refine wpAny_list_append_plain ⟨n, hv⟩ (fun h' hp hs => ?_) (by rw [List.size_toArray, rl.length]; exact hl)
 obtain ⟨n', hp⟩ := hp
 have hp' : h'.get? a = some (z7 (vs ++ [v]) n') := by rw [hp]; simp [z7]
 exact h h' (k.put (t := s.toks) ha hs.extBut hp' (rl.append (.one r))).1 (k.put (t := s.toks) ha hs.extBut hp' (rl.append (.one r))).2
theorem am0 {a : Addr} {F : Fz} {s : Shared} {v : Value} {pl : Sem Bool} {R : Value × List Value → Shared → Prop} (ha : σ a = some (.lst xs)) (k : EOk G K A env ρ σ F s) (r : Rel F (.ref a) v) (h : R (.builtin "list.append", [v]) s) : wpAny G.M A (getMethod v "append" pl) R E s := by
 cases show v = .ref a from r
 obtain ⟨_, vs, n, hv, _⟩ := k.lst a xs ha
 exact Calls.getMethod_list_append hv rfl rfl h
theorem B0 {a : Addr} (h1 : Ev G K ρ σ l (.ref a)) (ha : σ a = some (.lst xs)) (h2 : Ev G K ρ σ e y) (hl : xs.length ≤ sizeLine) (h : WS G K ss ρ (σ.set a (xs ++ [y])) Q) (hn : ∀ n env t, attributeBase l n env t = t := by intros; rfl) (hp : (ap.endLine == q.line) = true := by rfl) (hs : f0 e = true := by rfl) :
  WS G K (.Expr (.Call (.Attribute l "append" ap) [e] [] q) p :: ss) ρ σ Q :=
 w4 fun A env F s E k => wpAny_Expr_any (Z5 (id := "list.append") h1 hn hp (by rw [List.all_cons, hs]; rfl) (Nat.lt_of_sub_eq_succ rfl) (b8 h2 b9) k.e (fun F s v pl Q k => am0 ha k)
  (by
    rintro v _ F₁ s₁ S k₁ r ⟨w, _, rfl, r2, rfl⟩
    cases show v = .ref a from r
    exact as5 (k.step S) ha r2 hl fun h' k₂ L => ⟨.next, ρ, _, F₁, trivial, k₂, S.lk.trans L, h⟩)) (by unfold interactive; rw [k.e.kind]; rfl) rfl
theorem W4 {a : Addr} {p₁ p₂ : Pos} {m : Nat} (h1 : Ev G K ρ σ l (.ref a)) (ha : σ a = some (.lst xs)) (h2 : Ev G K ρ σ e y) (hl : xs.length ≤ sizeLine) (h : ∀ b, σ b = none → b ≠ a → WS G K ss ρ ((σ.set b []).set a (xs ++ [.tup [y, .ref b]])) Q) (hn : ∀ n env t, attributeBase l n env t = t := by intros; rfl) (hp : (ap.endLine == q.line) = true := by rfl) (hs : f0 e = true := by rfl) :
  WS G K (.Expr (.Call (.Attribute l "append" ap) [.Tuple [e, .List [] p₁] m p₂] [] q) p :: ss) ρ σ Q :=
 w4 fun A env F s E k => wpAny_Expr_any (aB0 (id := "list.append") h1 hn hp rfl (Nat.lt_of_sub_eq_succ rfl) k.e (fun F s v pl Q k => am0 ha k)
  (fun v F₁ s₁ S k₁ r => by
   cases show v = .ref a from r
   refine Calls.spliced_cons (Tuple_ ?_)
   rw [m6 p₂ env (es := [e, .List [] p₁]) (by rw [List.all_cons, hs]; rfl)]
   refine Calls.spliced_cons (h2.bind k₁ fun w F₂ s₂ S₂ r₂ k₂ => Calls.spliced_cons (List_ (Calls.spliced_nil (wpAny_newObj_type (Calls.spliced_nil ?_) (Nat.zero_le _)))))
   have kf := (k.step S).step S₂
   obtain ⟨k₃, L₃⟩ := kf.fresh s₂.toks
   have hb := kf.sizeσ
   have hba : s₂.heap.objs.size ≠ a := by rintro e; rw [e, ha] at hb; cases hb
   refine wpAny_mono (N1 (xs := [y, .ref s₂.heap.objs.size]) k₃.e.rm ⟨w, _, rfl, r₂, _, _, rfl, rfl, rfl⟩ (by show 2 ≤ sizeLine; decide)) (fun u s₄ q => q.casesOn fun F₄ S₄ r₄ => Calls.spliced_nil ?_) fun _ _ e => e
   exact as5 (k₃.step S₄) ((Ow.set_ne _ _ hba.symm).trans ha) r₄ hl fun h' k₅ L₅ => ⟨.next, ρ, _, F₄, trivial, k₅, (((S.trans S₂).lk.trans L₃).trans S₄.lk).trans L₅, h _ hb hba⟩)) (by unfold interactive; rw [k.e.kind]; rfl) rfl
structure bu0 (G : Gl) (f : Str) (xs : List V) (a : Addr) (acc acc' : List V) : Prop where
 is : ∃ o fd, G.mg f = some (.ref (G.fn f)) ∧ G.B.get? (G.fn f) = some o ∧ o.data = .func fd
 run : ∀ A F s E vs us n, Rm G A F s → RelL F xs vs → F a = none → s.heap.get? a = some (z7 us n) → RelL F acc us →
  wpAny G.M A (call (.ref (G.fn f)) vs) (fun _ s' => ∃ F' us' n', St G.x (· = a) F s F' s' ∧ s'.heap.get? a = some (z7 us' n') ∧ RelL F' acc' us') E s
theorem aL7 {a : Addr} {acc acc' : List V} (h : bu0 G f xs a acc acc') (ha : EvL G K ρ σ es xs) (hσ : σ a = some (.lst acc)) (h2 : WS G K ss ρ (σ.set a acc') Q) (hs : es.all f0 = true := by rfl) (hg : j8 K f = true := by decide +kernel) :
  WS G K (.Expr (.Call (.Name f q) es [] q') p :: ss) ρ σ Q :=
 w4 fun A env F s E k => wpAny_Expr_any (by
  obtain ⟨o, fd, hf, ho, hfd⟩ := h.is
  refine wpAny_Call_NameR (n7 k.e (.inl hf) hg ?_)
  rw [m6 q' env hs]
  refine Calls.callWith_function (l8 (o8 es env) (ha.bind k.e fun vs F₁ s₁ S₁ r₁ k₁ => ⟨⟨k₁.rm.in _ _ ho, hfd⟩, ?_⟩))
  obtain ⟨hF, us, n, hu, ru⟩ := k₁.lst a acc hσ
  refine wpAny_mono (h.run A F₁ s₁ E vs us n k₁.rm r₁ hF hu ru) (fun _ s₂ q => ?_) fun _ _ e => e
  obtain ⟨F₂, us', n', S₂, hu', ru'⟩ := q
  have k₁' := k.step S₁
  have own : ¬ Own env a := k₁'.notOwn hu (fun _ _ e => nomatch e) fun _ e => nomatch e
  have upO : ∀ b o, b ≠ a → s₁.heap.get? b = some o → ∃ o', s₂.heap.get? b = some o' ∧ KeepO G.x o o' := fun b o hb e => S₂.keepO b o e hb
  have up : ∀ b o, b ≠ a → s₁.heap.get? b = some o → (∀ es n, o.data ≠ .dict es n) → s₂.heap.get? b = some o := fun b o hb e hd => S₂.keep b o e hb hd
  have k₃ : FOk G K A env ρ (σ.set a acc') F₂ s₂ := ⟨⟨k₁.rm.step S₂, k₁.sc, k₁.kind, k₁.globals, k₁.builtins, fun b zs q => ?_,
   ⟨k₁.loc.len, k₁.loc.vars.elim fun _ q => (U4 q.1).elim fun _ e => S₂.out k₁.loc.out e, k₁.loc.vars.imp fun m r => ⟨U1 r.1 fun o e => upO _ o (fun e => own (.inl e.symm)) e, fun i x v hx hv => ⟨fun hk => ((r.2 i x v hx hv).1 hk).mono S₂.up, fun hk => ((r.2 i x v hx hv).2 hk).imp fun c u => u.imp fun ov u =>
    ⟨u.1, u.2.1.imp fun oc w => ⟨up _ _ (by rintro rfl; exact own (.inr ⟨x, mem_of_lookup u.1⟩)) w.1 (fun _ _ e => nomatch w.2.symm.trans e), w.2⟩, u.2.2.1.mono S₂.up, u.2.1.elim fun _ w => S₂.out u.2.2.2 w.1⟩⟩⟩⟩⟩,
   k.top, k.apart, k.nodup, fun x c hc => (k₁'.own x c hc).elim fun h1 h2 => ⟨h1.imp fun _ h => h.imp fun _ h => ⟨up _ _ (by rintro rfl; exact own (.inr ⟨x, hc⟩)) h.1 (fun _ _ e => nomatch h.2.symm.trans e), h.2⟩, h1.elim fun _ h => h.elim fun _ h => S₂.out h2 h.1⟩, k.setSep ((k.sep a _ hσ).imp id fun h _ => h rfl)⟩
  ·refine ⟨.next, ρ, _, F₂, trivial, k₃, S₁.lk.trans ⟨S₂.weaken fun b o _ q => .inr ⟨_, q ▸ hσ, rfl⟩, fun b zs q => ?_⟩, h2⟩
   by_cases hb : b = a
   ·exact .inl ⟨_, hb ▸ hσ, fun _ => rfl⟩
   ·exact .inl ⟨zs, (Ow.set_ne _ _ hb).symm.trans q, id⟩
  ·by_cases hb : b = a
   ·subst hb; cases (Ow.set_self ..).symm.trans q; exact ⟨S₂.out hF hu, _, hu', us', n', rfl, ru'⟩
   ·exact (k₁.own b zs ((Ow.set_ne _ _ hb).symm.trans q)).elim fun h1 h2 => h2.elim fun o h2 => ⟨S₂.out h1 h2.1, (upO b o hb h2.1).imp fun _ t => ⟨t.1, (h2.2.keep t.2).mono S₂.up⟩⟩) (by unfold interactive; rw [k.e.kind]; rfl) rfl
end
mutual
inductive Res (σ : Ow) : V → V → Prop
 | id (x : V) : Res σ x x
 | own {a : Addr} {xs ys : List V} : σ a = some (.lst xs) → ResL σ xs ys → Res σ (.ref a) (.lst ys)
 | tup {xs ys : List V} : ResL σ xs ys → Res σ (.tup xs) (.tup ys)
 | gen {a : Addr} {P : Obj → Prop} {P' : Addr → Obj → Addr → Obj → Prop} : σ a = some (.gen P) → (∀ o, P o → P' a o a o) → Res σ (.ref a) (.obj P')
inductive ResL (σ : Ow) : List V → List V → Prop
 | nil : ResL σ [] []
 | cons {x y : V} {xs ys : List V} : Res σ x y → ResL σ xs ys → ResL σ (x :: xs) (y :: ys)
end
theorem ResL.same {σ : Ow} : ∀ xs : List V, ResL σ xs xs
 | [] => .nil
 | x :: xs => .cons (.id x) (ResL.same xs)
theorem Res.frz {σ : Ow} {a : Addr} {xs : List V} (h : σ a = some (.lst xs)) : Res σ (.ref a) (.lst xs) := .own h (.same xs)
section
variable {σ : Ow} {F F' : Fz}
mutual
theorem Res.rel (up : ∀ a o, F a = some o → F' a = some o) (ho : ∀ a xs, σ a = some (.lst xs) → ∃ vs n, F' a = some (z7 vs n) ∧ RelL F xs vs) (hg : ∀ a P, σ a = some (.gen P) → ∃ o, F' a = some o ∧ P o) : ∀ {x y : V} {v : Value}, Res σ x y → Rel F x v → Rel F' y v
 | _, _, _, .id _, r => r.mono up
 | _, _, _, .own h q, r => (ho _ _ h).elim fun vs t => t.elim fun n t => ⟨_, vs, r, ⟨n, t.1⟩, ResL.rel up ho hg q t.2⟩
 | _, _, _, .tup q, r => r.imp fun _ r => r.imp fun _ r => ⟨r.1, r.2.1.imp fun _ => up _ _, ResL.rel up ho hg q r.2.2⟩
 | _, _, _, .gen h f, r => (hg _ _ h).elim fun o t => ⟨_, o, _, o, r, t.1, t.1, f o t.2⟩
theorem ResL.rel (up : ∀ a o, F a = some o → F' a = some o) (ho : ∀ a xs, σ a = some (.lst xs) → ∃ vs n, F' a = some (z7 vs n) ∧ RelL F xs vs) (hg : ∀ a P, σ a = some (.gen P) → ∃ o, F' a = some o ∧ P o) : ∀ {xs ys : List V} {vs : List Value}, ResL σ xs ys → RelL F xs vs → RelL F' ys vs
 | _, _, _, .nil, r => r
 | _, _, _, .cons a b, r => r.imp fun _ r => r.imp fun _ r => ⟨r.1, Res.rel up ho hg a r.2.1, ResL.rel up ho hg b r.2.2⟩
end
end
def by9 (P : V → Prop) : KS := fun fl _ σ => match fl with | .ret x => ∃ z, Res σ x z ∧ P z | .next => P .none
structure bx1 (G : Gl) (f : Str) (xs : List V) (P : V → Prop) : Prop where
 is : ∃ o fd, G.mg f = some (.ref (G.fn f)) ∧ G.B.get? (G.fn f) = some o ∧ o.data = .func fd
 run : ∀ A F s E vs, Rm G A F s → RelL F xs vs → wpAny G.M A (call (.ref (G.fn f)) vs) (fun v s' => ∃ z, P z ∧ PV G.x F s z v s') E s
def ao1 (z : V) : KS := fun fl _ σ => match fl with | .ret x => Res σ x z | .next => z = .none
def bH0 (a : Addr) (acc : List V) : KS := fun _ _ σ => σ a = some (.lst acc)
noncomputable def σ0 : Ow := fun _ => none
noncomputable def σ1 (a : Addr) (xs : List V) : Ow := σ0.set a xs
noncomputable def af3 (K : Sx) (np : Nat) : Bool :=
 !K.sc.isCoroutine && !K.sc.isGenerator && K.sc.kind == .function && (K.ns.all fun x => K.sc.names.lookup x == some .local || K.sc.names.lookup x == some .cell) && decide (((cellsFrom 0 K.sc.names []).map (·.1)).Nodup) && decide K.ns.Nodup && decide (np ≤ K.ns.length)
structure FnO (B : Heap) (fa : Addr) (K : Sx) (np : Nat) (sts : List Stmt) : Prop where
 obj : ∃ o fd, B.get? fa = some o ∧ o.data = .func fd ∧ B.CodeRec fd.code fd.qualname ∧ fd.body = .stmts sts ∧ fd.closure = [] ∧ fd.globals = mainGlobals ∧ fd.builtins = builtinsNs ∧
  (∀ vs : List Value, vs.length = np → bindArgs fd ⟨vs, []⟩ = pure ((K.ns.take np).zip vs)) ∧ fd.scope = K.sc
 chk : af3 K np = true
structure FnAt (B : Heap) (mg : Str → Option Value) (f : Str) (K : Sx) (np : Nat) (sts : List Stmt) : Prop where
 obj : ∃ o fd, mg f = some (.ref (fnA mg f)) ∧ B.get? (fnA mg f) = some o ∧ o.data = .func fd ∧ B.CodeRec fd.code fd.qualname ∧ fd.body = .stmts sts ∧ fd.closure = [] ∧ fd.globals = mainGlobals ∧ fd.builtins = builtinsNs ∧
  (∀ vs : List Value, vs.length = np → bindArgs fd ⟨vs, []⟩ = pure ((K.ns.take np).zip vs)) ∧ fd.scope = K.sc
 chk : af3 K np = true
theorem FnAt.o {B : Heap} {mg : Str → Option Value} {f : Str} {K : Sx} {np : Nat} {sts : List Stmt} (h : FnAt B mg f K np sts) : FnO B (fnA mg f) K np sts := ⟨h.obj.imp fun _ q => q.imp fun _ q => q.2, h.chk⟩
section
variable {kindOf : Str → Option NameKind}
theorem an0 : ∀ {binds : List (Str × Value)} {m : Str → Option Value} {x : Str}, (∀ y ∈ binds, y.1 ≠ x) → bindL kindOf binds m x = m x
 | [], _, _, _ => rfl
 | (n, v) :: r, m, x, h => by
  unfold bindL
  rw [an0 fun y hy => h y (List.mem_cons_of_mem _ hy)]
  split
  ·exact if_neg fun e => h (n, v) (List.mem_cons_self ..) e.symm
  ·rfl
theorem an1 : ∀ {binds : List (Str × Value)} {m : Str → Option Value} {x : Str}, (∀ y ∈ binds, y.1 ≠ x) → bindC kindOf binds m x = m x
 | [], _, _, _ => rfl
 | (n, v) :: r, m, x, h => by
  unfold bindC
  rw [an1 fun y hy => h y (List.mem_cons_of_mem _ hy)]
  split
  ·rfl
  ·exact if_neg fun e => h (n, v) (List.mem_cons_self ..) e.symm
theorem aX6 {ps : List Str} {vs : List Value} {x : Str} (h : x ∉ ps) : ∀ y ∈ ps.zip vs, y.1 ≠ x := fun y hy e => h (e ▸ (List.of_mem_zip (show (y.1, y.2) ∈ ps.zip vs from hy)).1)
theorem am9 : ∀ {ps : List Str} {vs : List Value} {m : Str → Option Value} {i : Nat} {x : Str} {v : Value}, ps.Nodup → ps[i]? = some x → vs[i]? = some v →
  (kindOf x = some .local → bindL kindOf (ps.zip vs) m x = some v) ∧ (kindOf x ≠ some .local → bindC kindOf (ps.zip vs) m x = some v)
 | [], _, _, _, _, _, _, h, _ => nomatch h
 | _ :: _, [], _, _, _, _, _, _, h => nomatch h
 | p :: ps, v :: vs, m, 0, x, w, hn, h1, h2 => by
  cases h1; cases h2
  have hm := aX6 (vs := vs) (List.nodup_cons.mp hn).1
  refine ⟨fun hk => ?_, fun hk => ?_⟩
  ·show bindL kindOf (ps.zip vs) _ p = _
   rw [an0 hm, if_pos hk]; exact if_pos rfl
  ·show bindC kindOf (ps.zip vs) _ p = _
   rw [an1 hm, if_neg hk]; exact if_pos rfl
 | p :: ps, v :: vs, m, i + 1, x, w, hn, h1, h2 => ⟨fun hk => (am9 (List.nodup_cons.mp hn).2 h1 h2).1 hk, fun hk => (am9 (List.nodup_cons.mp hn).2 h1 h2).2 hk⟩
end
theorem L5 : ∀ (names : List (Str × NameKind)) (n k : Nat) (acc acc' : List (Str × Addr)), acc.map (·.1) = acc'.map (·.1) → (cellsFrom n names acc).map (·.1) = (cellsFrom k names acc').map (·.1)
 | [], _, _, _, _, h => h
 | (x, kd) :: r, n, k, acc, acc', h => by
  unfold cellsFrom
  split
  ·exact L5 r _ _ _ _ (by simp [h])
  ·exact L5 r _ _ _ _ h
theorem W9 : ∀ {l : List (Str × Addr)} {x : Str} {c : Addr}, (l.map (·.1)).Nodup → (x, c) ∈ l → l.lookup x = some c
 | (y, d) :: r, x, c, hn, hm => by
  rw [List.map_cons, List.nodup_cons] at hn
  rcases List.mem_cons.mp hm with e | hm'
  ·cases e; simp
  ·have hne : x ≠ y := by rintro rfl; exact hn.1 (List.mem_map_of_mem (f := (·.1)) hm')
   rw [List.lookup_cons, beq_false_of_ne hne]
   exact W9 hn.2 hm'
theorem St.then {X : Bool} {D D₁ : Addr → Prop} {F F₁ F₂ : Fz} {s s₁ s₂ : Shared} (x : St X N0 F s F₁ s₁) (y : St X D₁ F₁ s₁ F₂ s₂) (h : ∀ b o, s.heap.get? b = some o → D₁ b → D b) : St X D F s F₂ s₂ :=
 ⟨fun a o e => y.up a o (x.up a o e), y.sub, fun b o e d => (x.keepO b o e id).elim fun o' r => (y.keepO b o' r.1 fun q => d (h b o e q)).imp fun _ t => ⟨t.1, r.2.trans t.2⟩, fun b o e => (x.live b o e).elim fun o' e' => (y.live b o' e'.1).imp fun _ r => ⟨r.1, e'.2.trans r.2⟩, fun b o e => (y.new b o e).elim (x.new b o) fun q => .inr (x.dead q), by rw [y.rest, x.rest]⟩
section
variable {G : Gl} {f : Str} {K : Sx} {np : Nat} {sts : List Stmt} {xs : List V} {σ : Ow} {A : Around} {F : Fz} {s : Shared} {vs : List Value} {R : Result → Shared → Prop} {Q : KS}
theorem R0 {fa : Addr} (FA : FnO G.B fa K np sts) (hlen : xs.length = np) (hd : 0 < G.d) (k : Rm G A F s) (r : RelL F xs vs) (hσ : ∀ a c, σ a = some c → (F a = none ∧ ∃ o, s.heap.get? a = some o ∧ OcR G.x F o c) ∧ (c.rw = true → L6 A a))
  (body : ∀ env s₁, FOk G.dn K (A.deeper env) env (xs ++ List.replicate (K.ns.length - np) .unb) σ F s₁ → St G.x N0 F s F s₁ → (∀ b, Own env b → s.heap.get? b = none) → (∀ q o, s.heap.get? q = some o → L6 A q → L6 (A.deeper env) q) →
   wpAny G.M (A.deeper env) (execs sts env) (fun f s' => R (.ok (.ret (match f with | .ret v => v | _ => .none))) s') (fun e s' => wpAny G.M (A.deeper env) (leaving env e) (fun _ s'' => R (.error e) s'') (fun e' s'' => R (.error e') s'') s') s₁) :
  codeAny G.M A (.call (.ref fa) ⟨vs, []⟩) R s := by
 obtain ⟨⟨o, fd, ho, hdat, hcd, hbody, hclo, hglob, hblt, hbind, hsc⟩, chk⟩ := FA
 unfold af3 at chk
 simp only [Bool.and_eq_true, Bool.not_eq_true', beq_iff_eq, decide_eq_true_eq] at chk
 obtain ⟨⟨⟨⟨⟨⟨hco, hgen⟩, hk⟩, hkinds⟩, hcn⟩, hnd⟩, hnp⟩ := chk
 have hvl : vs.length = np := r.length.trans hlen
 have htl : (K.ns.take np).length = np := by rw [List.length_take]; exact Nat.min_eq_left hnp
 have hpn : (K.ns.take np).Nodup := hnd.sublist (List.take_sublist ..)
 have hkind : ∀ x ∈ K.ns, K.sc.names.lookup x = some .local ∨ K.sc.names.lookup x = some .cell := fun x hx => (Bool.or_eq_true_iff.mp (List.all_eq_true.mp hkinds x hx)).imp eq_of_beq eq_of_beq
 have hcs : ∀ n x, K.sc.names.lookup x = some .cell → ((cellsFrom n K.sc.names []).lookup x).isSome = true := fun n x hc => PySem.W.cellsFrom_some _ _ _ (.inl hc)
 rw [← hsc] at hco hgen hk
 refine codeAny_call_cells (by have := k.depth; exact z3 _ _ _ (.k 1 (.add c8 d5) e9 (.k 1 (.add w9 k9) d5 .o)) i9 e9 tt this hd) (k.in _ _ ho) hdat (k.go.nolimit.keeps k.in) (hcd.keeps k.in) hbody (hbind vs hvl) hclo (fun x hx => ?_) (fun s₁ x => ?_) hco hgen hk
 ·rw [hsc]
  exact (hkind x.1 (List.mem_of_mem_take (List.of_mem_zip (show (x.1, x.2) ∈ (K.ns.take np).zip vs from hx)).1)).imp id fun q => ⟨q, hcs _ _ q⟩
 obtain ⟨h₁, tk, rfl⟩ := x.toInCall.same
 have S₁ : St G.x N0 F s F { s with heap := h₁, toks := tk } := .grow k.sub x.toInCall.keep
 have out : ∀ {a : Addr}, s.heap.get? a = none → F a = none := fun {a} h => by
  cases q : F a with
  | none => rfl
  | some o => exact nS (h.symm.trans (k.sub _ _ q))
 have hLn : s.heap.get? (callEnvC fd s.heap.objs.size fa).locals = none := j9 _
 have hCn : ∀ y c, (y, c) ∈ (callEnvC fd s.heap.objs.size fa).cells → s.heap.get? c = none := fun y c hm => by
  cases q : s.heap.get? c with
  | none => rfl
  | some o' => exact absurd (Heap.lt_size q) (Nat.not_lt.mpr (Nat.le_of_lt (x.above y c hm)))
 have hcn' : ((callEnvC fd s.heap.objs.size fa).cells.map (·.1)).Nodup := by
  show ((cellsFrom (s.heap.objs.size + 1) fd.scope.names []).map (·.1)).Nodup
  rw [hsc, L5 K.sc.names (s.heap.objs.size + 1) 0 [] [] rfl]; exact hcn
 have cell : ∀ y, K.sc.names.lookup y = some .cell → ∃ c, (callEnvC fd s.heap.objs.size fa).cells.lookup y = some c := fun y hc => by
  show ∃ c, (cellsFrom (s.heap.objs.size + 1) fd.scope.names []).lookup y = some c
  rw [hsc]; exact Option.isSome_iff_exists.mp (hcs _ y hc)
 have nf : ∀ q o, s.heap.get? q = some o → L6 A q → L6 (A.deeper (callEnvC fd s.heap.objs.size fa)) q := fun q oq e hA l hl env' m hq => by
  obtain ⟨l₀, hl₀, _⟩ := k.frames
  cases (Around.frames_deeper hl₀).symm.trans hl
  rcases List.mem_cons.mp m with rfl | m
  ·cases show some (callEnvC fd s.heap.objs.size fa).locals = some q from hq
   exact nS (hLn.symm.trans e)
  ·exact hA l₀ hl₀ env' m hq
 have k₁ : FOk G.dn K (A.deeper (callEnvC fd s.heap.objs.size fa)) (callEnvC fd s.heap.objs.size fa) (xs ++ List.replicate (K.ns.length - np) .unb) σ F { s with heap := h₁, toks := tk } := by
  refine ⟨⟨⟨⟨k.go.g, k.go.b, k.go.nolimit, k.go.blt⟩, k.base, S₁.sub, ?_, ?_, k.handled, ?_⟩, hsc, hk, hglob, hblt, fun a xs q => (hσ a xs q).1.imp id fun t => t.imp fun _ t => ⟨x.toInCall.keep _ _ t.1, t.2⟩,
   ⟨by rw [List.length_append, List.length_replicate, hlen]; exact a39 hnp, out hLn, _, x.toInCall.ns, fun i y v hy hv => ?_⟩⟩, k.frames.imp fun _ q => Around.frames_deeper q.1, x.apart, hnd, fun y c hm => ⟨⟨_, x.cell y c (W9 hcn' hm)⟩, out (hCn y c hm)⟩, fun a c q => (hσ a c q).elim fun t hA => t.2.elim fun o t => ⟨fun hb => hb.elim (fun e => nS ((e ▸ hLn : s.heap.get? a = none).symm.trans t.1)) fun u => u.elim fun y hy => (nS ((hCn y a hy).symm.trans t.1)), fun hr => nf a o t.1 (hA hr)⟩⟩
  ·have := k.depth; show A.depth + 1 + (G.d - 1) ≤ recursionLimit; exact I0 _ _ _ _ (.k 1 (.add c8 d5) e9 (.k 1 I9 d5 .o)) (.add i9 o7) e9 tt this (F1 (o5 _ (.k 1 (.add w9 k9) c8 .o) k9 c8 tt hd))
  ·have := k.units; show A.units + 3 + 10 * (G.d - 1) + 100 ≤ cLine; exact Nat.le_of_not_lt fun u1 => (f'4 _ _ _ _ (.k 1 (.add (.add c8 (.mulL 10 d5)) (.num 100)) e9 (.k 10 I9 d5 (.k 1 D9 (.add (.add (.add c8 R4) (.mulL 10 o7)) (.num 100)) .o))) tt this (F1 (o5 _ (.k 1 (.add w9 k9) c8 .o) k9 c8 tt hd)) u1)
  ·obtain ⟨l, hl, hfr⟩ := k.frames
   refine ⟨_, Around.frames_deeper hl, fun env' m => (List.mem_cons.mp m).elim (fun e => ?_) fun m => (hfr.step S₁) env' m⟩
   subst e
   exact ⟨by rw [show (callEnvC fd s.heap.objs.size fa).scope.kind = .function from hk]; decide, _, rfl, out hLn, x.toInCall.ns.imp fun o t => t.imp fun es t => t.imp fun n t => ⟨t.1, t.2.1⟩⟩
  ·have ek : (callEnvC fd s.heap.objs.size fa).kindOf y = K.sc.names.lookup y := by show fd.scope.names.lookup y = _; rw [hsc]
   by_cases hi : i < np
   ·rw [List.getElem?_append_left (by rw [hlen]; exact hi)] at hv
    obtain ⟨w, hw, rw'⟩ := r.get hv
    have hb := am9 (kindOf := (callEnvC fd s.heap.objs.size fa).kindOf) (m := fun _ => none) hpn (by rw [List.getElem?_take, if_pos hi]; exact hy) hw
    refine ⟨fun hl => ?_, fun hc => (cell y hc).imp fun c hcc => ⟨some w, hcc, ?_, O5 rw', out (hCn y c (mem_of_lookup hcc))⟩⟩
    ·rw [hb.1 (ek.trans hl)]; exact O5 rw'
    ·rw [← hb.2 (by rw [ek, hc]; decide)]; exact x.cell y c hcc
   ·rw [List.getElem?_append_right (by rw [hlen]; exact a33 hi)] at hv
    obtain ⟨_, hv⟩ := List.getElem?_eq_some_iff.mp hv
    rw [List.getElem_replicate] at hv
    subst hv
    exact ⟨fun _ h => absurd rfl h, fun hc => (cell y hc).imp fun c hcc => ⟨_, hcc, x.cell y c hcc, fun h => absurd rfl h, out (hCn y c (mem_of_lookup hcc))⟩⟩
 exact body _ _ k₁ S₁ (fun b hb => hb.elim (fun e => e ▸ hLn) fun q => q.elim fun y hy => hCn y b hy) nf
theorem L4 {fa : Addr} (FA : FnO G.B fa K np sts) (hlen : xs.length = np) (hd : 0 < G.d) (h : WS G.dn K sts (xs ++ List.replicate (K.ns.length - np) .unb) σ Q) (k : Rm G A F s) (r : RelL F xs vs) (hσ : ∀ a c, σ a = some c → (F a = none ∧ ∃ o, s.heap.get? a = some o ∧ OcR G.x F o c) ∧ (c.rw = true → L6 A a))
  (fin : ∀ fl v σ' F' s', bj3 F' (.ret v) fl ∨ (fl = .next ∧ v = .none) → (∀ a c, σ' a = some c → F' a = none ∧ ∃ o, s'.heap.get? a = some o ∧ OcR G.x F' o c) → St G.x (fun a => ∃ c, σ a = some c ∧ c.rw = true) F s F' s' → (∀ b c, σ' b = some c → (∃ c', σ b = some c' ∧ (c.rw = true → c'.rw = true)) ∨ s.heap.get? b = none) → (∃ ρ, Q fl ρ σ') → R (.ok (.ret v)) s') :
  codeAny G.M A (.call (.ref fa) ⟨vs, []⟩) R s := by
 refine R0 FA hlen hd k r hσ fun env s₁ k₁ S₁ hown _ => wpAny_mono (h _ _ _ _ _ k₁) (fun f' s' hp => hp.casesOn fun fl ρ' σ' F' hf k' L q => ?_) fun _ _ e => e
 have S : St G.x (fun a => ∃ c, σ a = some c ∧ c.rw = true) F s F' s' := S₁.then L.S fun b o e q => q.elim (fun q => nomatch e.symm.trans (hown b q)) id
 cases f' <;> cases fl <;> first | exact hf.elim | skip
 ·exact fin .next .none σ' F' s' (.inr ⟨rfl, rfl⟩) k'.e.own S (fun b xs q => (L.d b xs q).imp id S₁.dead) ⟨ρ', q⟩
 ·exact fin _ _ σ' F' s' (.inl hf) k'.e.own S (fun b xs q => (L.d b xs q).imp id S₁.dead) ⟨ρ', q⟩
theorem dl {G : Gl} {a b : Nat} (h : b ≤ G.d) (hab : a + 1 ≤ b := by decide) : a ≤ G.dn.d := Nat.le_sub_of_add_le (Nat.le_trans hab h)
theorem ak2 {fa : Addr} (FA : FnO G.B fa K np sts) {P : V → Prop} (hlen : xs.length = np) (hd : 0 < G.d) (hro : ∀ a c, σ a = some c → c.rw = false) (h : WS G.dn K sts (xs ++ List.replicate (K.ns.length - np) .unb) σ (by9 P)) {A : Around} {F : Fz} {s : Shared} {E : Value → Shared → Prop} {vs : List Value} (k : Rm G A F s) (r : RelL F xs vs) (hσ : ∀ a c, σ a = some c → F a = none ∧ ∃ o, s.heap.get? a = some o ∧ OcR G.x F o c) : wpAny G.M A (call (.ref fa) vs) (fun v s' => ∃ z, P z ∧ PV G.x F s z v s') E s :=
 wpAny_call (L4 FA hlen hd h k r (fun a c q => ⟨hσ a c q, fun hr => by rw [hro a c q] at hr; cases hr⟩) fun fl v σ' F' s' hf own S d q => by
  classical
  let F₂ : Fz := fun b => match F' b with | some o => some o | none => if ∃ c, σ' b = some c ∧ c.fr = true then s'.heap.get? b else none
  have up : ∀ a o, F' a = some o → F₂ a = some o := fun a o e => by show (match F' a with | some o => some o | none => _) = _; rw [e]
  have at_ : ∀ a c, σ' a = some c → c.fr = true → F₂ a = s'.heap.get? a := fun a c q hc => by
   show (match F' a with | some o => some o | none => _) = _
   rw [(own a _ q).1]; exact if_pos ⟨c, q, hc⟩
  have back : ∀ a o, F₂ a = some o → F' a = some o ∨ ((∃ c, σ' a = some c ∧ c.fr = true) ∧ s'.heap.get? a = some o) := fun a o e => by
   revert e
   show (match F' a with | some o => some o | none => if ∃ c, σ' a = some c ∧ c.fr = true then s'.heap.get? a else none) = _ → _
   cases F' a with
   | some o' => exact fun e => .inl e
   | none => exact fun e => (Classical.em (∃ c, σ' a = some c ∧ c.fr = true)).elim (fun h => .inr ⟨h, (if_pos h).symm.trans e⟩) fun h => nS ((if_neg h).symm.trans e)
  have S₂ : St G.x N0 F s F₂ s' := ⟨fun a o e => up a o (S.up a o e), fun a o e => (back a o e).elim (S.sub a o) (·.2), fun b o e _ => S.keepO b o e fun q => q.elim fun c q => (nomatch (hro b c q.1).symm.trans q.2), S.live,
   fun b o e => (back b o e).elim (S.new b o) fun q => q.1.elim fun cc q => (d b _ q.1).elim (fun t => t.elim fun c t => (nomatch (hro b c t.1).symm.trans (t.2 (Oc.fr_rw q.2)))) .inr, S.rest⟩
  obtain ⟨ρ, q⟩ := q
  rcases hf with hf | ⟨rfl, rfl⟩
  ·cases fl with
   | next => exact hf.elim
   | ret x => exact q.imp fun z q => ⟨q.2, F₂, S₂, Res.rel up (fun a xs q => (own a _ q).2.elim fun o t => by obtain ⟨h1, vs, n, rfl, rl⟩ := t; exact ⟨vs, n, (at_ a _ q rfl).trans h1, rl⟩) (fun a P q => (own a _ q).2.elim fun o t => ⟨o, (at_ a _ q rfl).trans t.1, t.2.2⟩) q.1 hf⟩
  ·exact ⟨.none, q, F₂, S₂, rfl⟩)
theorem bb7 {fa : Addr} (FA : FnO G.B fa K np sts) {P : V → Prop} (hlen : xs.length = np) (hd : 0 < G.d) (h : WS G.dn K sts (xs ++ List.replicate (K.ns.length - np) .unb) σ0 (by9 P)) : ∀ A F s E vs, Rm G A F s → RelL F xs vs → wpAny G.M A (call (.ref fa) vs) (fun v s' => ∃ z, P z ∧ PV G.x F s z v s') E s := fun A F s E vs k r =>
 ak2 (σ := σ0) FA hlen hd (fun a c q => by cases q) h k r fun a c q => by cases q
theorem aA1 (FA : FnAt G.B G.mg f K np sts) {P : V → Prop} (hlen : xs.length = np) (hd : 0 < G.d) (h : WS G.dn K sts (xs ++ List.replicate (K.ns.length - np) .unb) σ0 (by9 P)) : bx1 G f xs P :=
 ⟨FA.obj.imp fun _ q => q.imp fun _ q => ⟨q.1, q.2.1, q.2.2.1⟩, bb7 FA.o hlen hd h⟩
theorem l7 (FA : FnAt G.B G.mg f K np sts) {z : V} (hlen : xs.length = np) (hd : 0 < G.d) (h : WS G.dn K sts (xs ++ List.replicate (K.ns.length - np) .unb) σ0 (ao1 z)) : Pure G f xs z :=
 have := aA1 (P := (· = z)) FA hlen hd (ag6 h fun fl ρ σ q => by cases fl; exact q.symm; exact ⟨z, q, rfl⟩)
 ⟨this.is, fun A F s E vs k r => wpAny_mono (this.run A F s E vs k r) (fun _ _ q => q.elim fun _ q => q.1 ▸ q.2) fun _ _ e => e⟩
theorem au2 (FA : FnAt G.B G.mg f K np sts) {a : Addr} {acc acc' : List V} (hlen : xs.length = np) (hd : 0 < G.d) (h : WS G.dn K sts (xs ++ List.replicate (K.ns.length - np) .unb) (σ1 a acc) (bH0 a acc')) : bu0 G f xs a acc acc' :=
 ⟨FA.obj.imp fun _ q => q.imp fun _ q => ⟨q.1, q.2.1, q.2.2.1⟩, fun A F s E vs us n k r hF hu ru => wpAny_call (L4 FA.o hlen hd h k r (fun b ys q => by
   by_cases e : b = a
   ·subst e; cases (Ow.set_self ..).symm.trans q; exact ⟨⟨hF, _, hu, us, n, rfl, ru⟩, fun _ => k.nofr fun o es n e h => by cases hu.symm.trans e; cases h⟩
   ·exact nS ((Ow.set_ne _ _ e).symm.trans q)) fun fl v σ' F' s' hf own S d q => by
  obtain ⟨ρ, q⟩ := q
  obtain ⟨_, o, t, us', n', rfl, u⟩ := own a _ q
  exact ⟨F', us', n', S.weaken fun b o _ q => q.elim fun ys q => Classical.byContradiction fun e => (nS ((Ow.set_ne _ _ e).symm.trans q.1)), t, u⟩)⟩
end
noncomputable def O4 (scope sc : Scope) : Scope :=
 { scope with names := scope.names.map fun (n, k) => if (k == .free && sc.kind == .function && sc.names.lookup n == some .cell) then (n, .cell) else (n, k) }
noncomputable def nm (K : Sx) (i : Nat) : Str := K.ns.getD i Str.empty
noncomputable def N5 (K : Sx) (caps : List Nat) (ys : List Str) (scope : Scope) : Bool :=
 scope.kind == .function && scope.names.all (fun x => x.2 != .cell) && scope.names.all (fun x => x.2 != .local || scope.names.lookup x.1 == some .local) && (ys.all fun y => scope.names.lookup y == some .local) &&
 caps.all (fun i => decide (i < K.ns.length) && (O4 scope K.sc).names.lookup (nm K i) == some .cell) && scope.names.all (fun x => x.2 != .free || (K.sc.names.lookup x.1 == some .cell && K.ns.contains x.1))
noncomputable def Sx.comp (K : Sx) (caps : List Nat) (ys : List Str) (scope : Scope) : Sx := ⟨O4 scope K.sc, caps.map (nm K) ++ ys⟩
noncomputable def ρc (ρ : List V) (caps : List Nat) (xs : List V) : List V := caps.map (fun i => ρ.getD i .unb) ++ xs
structure aL3 (K : Sx) (caps : List Nat) (ys : List Str) (scope : Scope) : Prop where
 kind : scope.kind = .function
 nocell : ∀ x ∈ scope.names, x.2 ≠ .cell
 locals : ∀ x ∈ scope.names, x.2 = .local → scope.names.lookup x.1 = some .local
 tgt : ∀ y ∈ ys, scope.names.lookup y = some .local
 caps : ∀ i ∈ caps, i < K.ns.length ∧ (O4 scope K.sc).names.lookup (nm K i) = some .cell
 free : ∀ x ∈ scope.names, x.2 = .free → K.sc.names.lookup x.1 = some .cell ∧ x.1 ∈ K.ns
theorem aT7 {K : Sx} {caps : List Nat} {ys : List Str} {scope : Scope} (h : N5 K caps ys scope = true) : aL3 K caps ys scope := by
 unfold N5 at h
 simp only [Bool.and_eq_true, beq_iff_eq, List.all_eq_true, Bool.or_eq_true, bne_iff_ne, ne_eq, decide_eq_true_eq, List.contains_iff_mem] at h
 obtain ⟨⟨⟨⟨⟨h1, h2⟩, h3⟩, h4⟩, h5⟩, h6⟩ := h
 exact ⟨h1, h2, fun x hx e => (h3 x hx).elim (fun q => absurd e q) id, h4, h5, fun x hx e => (h6 x hx).elim (fun q => absurd e q) id⟩
noncomputable def N6 (env : Env) : List (Str × NameKind) → List (Str × Addr) → List (Str × Addr)
 | [], acc => acc
 | (n, k) :: r, acc => if k == .free then N6 env r ((n, (env.cells.lookup n).getD 0) :: acc) else N6 env r acc
theorem aJ8 {env : Env} {scope : Scope} (h : ∀ x ∈ scope.names, x.2 = .free → ∃ c, env.cells.lookup x.1 = some c) : closureFor scope env = pure (N6 env scope.names []) := by
 have key : ∀ (l : List (Str × NameKind)) (acc : List (Str × Addr)), (∀ x ∈ l, x.2 = .free → ∃ c, env.cells.lookup x.1 = some c) →
   (forIn l acc fun (x : Str × NameKind) (r : List (Str × Addr)) => (if (x.2 == .free) = true then do let a ← cellOf env x.1; pure (ForInStep.yield ((x.1, a) :: r)) else pure (ForInStep.yield r) : Sem (ForInStep (List (Str × Addr))))) = pure (N6 env l acc) := by
  intro l
  induction l with
  | nil => intro acc _; rfl
  | cons a l ih =>
   intro acc hl
   obtain ⟨n, k⟩ := a
   rw [List.forIn_cons]
   unfold N6
   by_cases hk : (k == .free) = true
   ·obtain ⟨c, hc⟩ := hl (n, k) (List.mem_cons_self ..) (eq_of_beq hk)
    have hc' : env.cells.lookup n = some c := hc
    simp only [hk, if_true, cellOf, hc', pure_bind, Option.getD_some]
    exact ih _ fun x hx => hl x (List.mem_cons_of_mem _ hx)
   ·simp only [hk, pure_bind, Bool.false_eq_true, if_false]
    exact ih _ fun x hx => hl x (List.mem_cons_of_mem _ hx)
 have := key scope.names [] h
 unfold closureFor
 have e2 : ∀ (t : Sem (List (Str × Addr))), t = pure (N6 env scope.names []) → (t >>= fun cs => (pure cs : Sem (List (Str × Addr)))) = pure (N6 env scope.names []) := fun t e => by rw [e]; rfl
 exact e2 _ this
theorem R2 {env : Env} : ∀ (l : List (Str × NameKind)) (acc : List (Str × Addr)) (n : Str) (c : Addr), env.cells.lookup n = some c → (∀ d, acc.lookup n = some d → d = c) → ((n, NameKind.free) ∈ l ∨ acc.lookup n = some c) → (N6 env l acc).lookup n = some c
 | [], acc, n, c, _, _, h => h.elim (fun h => nomatch h) id
 | (y, k) :: r, acc, n, c, hc, ha, h => by
  have rest : (n, NameKind.free) ∈ r ∨ acc.lookup n = some c → (N6 env r acc).lookup n = some c := R2 r acc n c hc ha
  unfold N6
  split
  ·rename_i hk
   have hk := eq_of_beq hk
   by_cases hy : n = y
   ·subst hy
    have e : (((n, (env.cells.lookup n).getD 0) :: acc).lookup n) = some c := by rw [List.lookup_cons_self, hc]; rfl
    exact R2 r _ n c hc (fun d hd => Option.some.inj (hd.symm.trans e)) (.inr e)
   ·have e : (((y, (env.cells.lookup y).getD 0) :: acc).lookup n) = acc.lookup n := by rw [List.lookup_cons, beq_false_of_ne hy]
    exact R2 r _ n c hc (fun d hd => ha d (e.symm.trans hd)) (h.imp (fun h => (List.mem_cons.mp h).elim (fun q => absurd (congrArg Prod.fst q) hy) id) fun h => e.trans h)
  ·rename_i hk
   exact rest (h.imp (fun h => (List.mem_cons.mp h).elim (fun q => absurd (by cases q; rfl) hk) id) id)
theorem Q0 {sc : Scope} : ∀ {names : List (Str × NameKind)} {x : Str}, (∀ y ∈ names, y.2 ≠ .cell) →
  (names.map fun (n, k) => if (k == NameKind.free && sc.kind == .function && sc.names.lookup n == some .cell) then (n, NameKind.cell) else (n, k)).lookup x = some .cell → (x, NameKind.free) ∈ names
 | (n, k) :: r, x, hc, h => by
  rw [List.map_cons] at h
  by_cases hk : (k == NameKind.free && sc.kind == .function && sc.names.lookup n == some .cell) = true
  ·simp only [hk, if_true, List.lookup_cons] at h
   split at h
   ·rename_i e
    cases eq_of_beq e
    rw [eq_of_beq (Bool.and_eq_true_iff.mp (Bool.and_eq_true_iff.mp hk).1).1]
    exact List.mem_cons_self ..
   ·exact List.mem_cons_of_mem _ (Q0 (fun y hy => hc y (List.mem_cons_of_mem _ hy)) h)
  ·simp only [hk, Bool.false_eq_true, if_false, List.lookup_cons] at h
   split at h
   ·cases h; exact absurd rfl (hc (n, .cell) (List.mem_cons_self ..))
   ·exact List.mem_cons_of_mem _ (Q0 (fun y hy => hc y (List.mem_cons_of_mem _ hy)) h)
theorem St.priv {X : Bool} {D : Addr → Prop} {F₀ F : Fz} {s₀ s : Shared} {r : Addr} {h' : Heap} {t : Nat} (S : St X D F₀ s₀ F s) (hq : F r = none) (h0 : s₀.heap.get? r = none) (hs : Heap.ExtBut r s.heap h') : St X D F₀ s₀ F { s with heap := h', toks := t } :=
 have ne : ∀ b o, s₀.heap.get? b = some o → b ≠ r := fun b o e => by rintro rfl; exact nS (h0.symm.trans e)
 ⟨S.up, fun a o e => hs a o (by rintro rfl; exact nS (hq.symm.trans e)) (S.sub a o e), fun b o e d => (S.keepO b o e d).imp fun o' q => ⟨hs b o' (ne b o e) q.1, q.2⟩, fun b o e => (S.live b o e).imp fun o' e' => ⟨hs b o' (ne b o e) e'.1, e'.2⟩, S.new, by rw [S.rest]⟩
theorem Rm.out {G : Gl} {A : Around} {F : Fz} {s : Shared} (R : Rm G A F s) {a : Addr} (h : s.heap.get? a = none) : F a = none := by
 cases q : F a with
 | none => rfl
 | some o => exact nS (h.symm.trans (R.sub _ _ q))
section
variable {G : Gl} {K : Sx} {A : Around} {env : Env} {ρ : List V} {σ : Ow} {F : Fz} {s : Shared} {E : Value → Shared → Prop} {caps : List Nat} {y : Str} {scope : Scope} {e' it₀ : PySem.Expr} {py p q : Pos} {ifs : List PySem.Expr} {x : V} {xs : List V}
theorem ar8 {ys : List Str} (O : aL3 K caps ys scope) (k : EOk G K A env ρ σ F s) {z : Str} (hz : (z, NameKind.free) ∈ scope.names) : ∃ (i : Nat) (v : V) (c : Addr) (ov : Option Value), K.ns[i]? = some z ∧ ρ[i]? = some v ∧ env.cells.lookup z = some c ∧ s.heap.IsCell c ov ∧ RelO F v ov ∧ F c = none := by
 obtain ⟨h1, h2⟩ := O.free _ hz rfl
 obtain ⟨mm, _, vars⟩ := k.loc.vars
 obtain ⟨i, hi, e⟩ := List.getElem_of_mem h2
 have hi' : K.ns[i]? = some z := by rw [List.getElem?_eq_getElem hi, e]
 have hl : i < ρ.length := by rw [k.loc.len]; exact hi
 obtain ⟨c, ov, g⟩ := (vars i z _ hi' (List.getElem?_eq_getElem hl)).2 h1
 exact ⟨i, _, c, ov, hi', List.getElem?_eq_getElem hl, g⟩
theorem bg1 {C : Addr} {mC : Str → Option Value} {ys : List Str} {xs : List V} (O : aL3 K caps ys scope) (k : EOk G K A env ρ σ F s) (hn : s.heap.Ns C mC) (hF : F C = none) (hlen : xs.length = ys.length) (hv : ∀ (j : Nat) y x, ys[j]? = some y → xs[j]? = some x → ∃ v, mC y = some v ∧ Rel F x v) :
  EOk G (K.comp caps ys scope) A (compEnvC scope (N6 env scope.names []) C env) (ρc ρ caps xs) σ F s := by
 have hrel : relabel scope env = O4 scope K.sc := by unfold relabel O4; rw [← k.sc]; rfl
 refine ⟨k.rm, hrel, by show (relabel scope env).kind = _; exact O.kind, k.globals, k.builtins, k.own, ⟨by simp [ρc, Sx.comp, hlen], hF, mC, hn, fun i z w hz hw => ?_⟩⟩
 by_cases hi : i < caps.length
 ·unfold ρc at hw
  unfold Sx.comp at hz
  rw [List.getElem?_append_left (by simpa using hi)] at hw
  rw [List.getElem?_append_left (by simpa using hi)] at hz
  rw [List.getElem?_map, List.getElem?_eq_getElem hi] at hz hw
  cases hz; cases hw
  obtain ⟨hc1, hc2⟩ := O.caps _ (List.getElem_mem hi)
  refine ⟨fun hl => (nomatch hc2.symm.trans hl), fun _ => ?_⟩
  have hf := Q0 O.nocell hc2
  obtain ⟨j, v', c, ov, h1, h2, h3, h4, h5, h6⟩ := ar8 O k hf
  refine ⟨c, ov, R2 _ _ _ c h3 (fun d hd => nomatch hd) (.inl hf), h4, ?_, h6⟩
  have hl : caps[i] < ρ.length := by rw [k.loc.len]; exact hc1
  obtain ⟨mm, _, vars⟩ := k.loc.vars
  have hnm : K.ns[caps[i]]? = some (nm K caps[i]) := by unfold nm; rw [List.getD_eq_getElem?_getD, List.getElem?_eq_getElem hc1]; rfl
  obtain ⟨c', ov', q1, q2, q3, _⟩ := (vars caps[i] _ _ hnm (List.getElem?_eq_getElem hl)).2 (O.free _ hf rfl).1
  cases h3.symm.trans q1
  obtain ⟨o1, e1, d1⟩ := h4
  obtain ⟨o2, e2, d2⟩ := q2
  cases e1.symm.trans e2
  cases d1.symm.trans d2
  show RelO F (ρ.getD caps[i] .unb) ov
  rw [List.getD_eq_getElem?_getD, List.getElem?_eq_getElem hl]; exact q3
 ·unfold ρc at hw
  unfold Sx.comp at hz
  rw [List.getElem?_append_right (by simpa using hi)] at hw hz
  rw [List.length_map] at hw hz
  have hk : (O4 scope K.sc).names.lookup z = some .local := by rw [← hrel]; exact lookup_relabel_local (O.tgt z (List.mem_of_getElem? hz))
  obtain ⟨v, e, r⟩ := hv _ z w hz hw
  exact ⟨fun _ => e ▸ O5 r, fun hc => nomatch hk.symm.trans hc⟩
def Turn (G : Gl) (K : Sx) (ρ : List V) (σ : Ow) (ifs : List PySem.Expr) (e : PySem.Expr) (r : Option V) : Prop :=
 (ifs = [] ∧ ∃ z, r = some z ∧ Ev G K ρ σ e z) ∨ ∃ c b, ifs = [c] ∧ Tr G K ρ σ c b ∧ (b = true → ∃ z, r = some z ∧ Ev G K ρ σ e z) ∧ (b = false → r = none)
theorem O2 {ρ' : List V} {z : V} (h : Ev G K ρ' σ e' z) : Turn G K ρ' σ [] e' (some z) := .inl ⟨rfl, z, rfl, h⟩
theorem V5 {ρ' : List V} {c : PySem.Expr} {b : Bool} {z : V} (h1 : Tr G K ρ' σ c b) (h2 : b = true → Ev G K ρ' σ e' z) : Turn G K ρ' σ [c] e' (if b then some z else none) :=
 .inr ⟨c, b, rfl, h1, fun e => ⟨z, by rw [e]; rfl, h2 e⟩, fun e => by rw [e]; rfl⟩
theorem Turn.test {F₁ : Fz} {s₁ : Shared} {ρ' : List V} {r : Option V} (h : Turn G K ρ' σ ifs e' r) (k : EOk G K A env ρ' σ F₁ s₁) {R : Bool → Shared → Prop} (h1 : ∀ F₂ s₂ z, St G.x N0 F₁ s₁ F₂ s₂ → EOk G K A env ρ' σ F₂ s₂ → r = some z → Ev G K ρ' σ e' z → R true s₂) (h2 : ∀ F₂ s₂, St G.x N0 F₁ s₁ F₂ s₂ → r = none → R false s₂) :
  wpAny G.M A (forIn ifs true fun c r => if r = true then do let ok ← isTrue c env (eval c env); pure (ForInStep.yield ok) else pure (ForInStep.yield r)) R E s₁ := by
 rcases h with ⟨rfl, z, hr, hz⟩ | ⟨c, b, rfl, hc, ht, hf⟩
 ·exact wpAny_tests_nil (h1 F₁ s₁ z (.refl k.rm.sub) k hr hz)
 ·refine wpAny_tests_one (hc.bind k fun F₂ s₂ S k₂ => ?_)
  cases b
  ·exact h2 F₂ s₂ S (hf rfl)
  ·exact (ht rfl).elim fun z q => h1 F₂ s₂ z S k₂ q.1 q.2
theorem ao7 {prog : Program} {w : World} {R : Result → Shared → Prop} {elt target iter : PySem.Expr} {ifs : List PySem.Expr} {scope : Scope} {pos : Pos} {it acc : Value} {env : Env} {s : Shared} (I : Nat → Shared → Prop)
  (turn : ∀ n s E, I n s → wpAny (model prog w) A (pyNext it) (fun r s₁ => match r with
   | none => R (.ok .next) s₁
   | some v => wpAny (model prog w) A (letOwnedTupleGo target it v) (fun _ s₁' => wpAny (model prog w) A (assign target env v) (fun _ s₂ =>
     wpAny (model prog w) A (forIn ifs true fun c r => if r = true then do let ok ← isTrue c env (eval c env); pure (ForInStep.yield ok) else pure (ForInStep.yield r)) (fun ok s₃ =>
      if ok = true then wpAny (model prog w) A (eval elt env) (fun x s₄ => wpAny (model prog w) A (call (.builtin "list.append") [acc, x]) (fun _ s₅ => ∃ m, m < n ∧ I m s₅) E s₄) E s₃ else ∃ m, m < n ∧ I m s₃) E s₂) E s₁') E s₁) E s)
  (n : Nat) (h : I n s) : codeAny (model prog w) A (.compLoop (.ListComp elt [⟨target, iter, ifs, 0⟩] scope pos) 0 it acc env) R s := by
 refine codeAny_loop rfl I (fun n s hI => ?_) n h
 show wpAny _ A ((compTurn (.ListComp elt [⟨target, iter, ifs, 0⟩] scope pos) 0 it acc env).onRaise (fun x => do noteFrame x env; theTreesLotGoes x)) _ _ s
 refine wpAny_noted ?_
 rw [compTurn_list]
 refine wpAny_bind (wpAny_standAt (wpAny_bind (wpAny_mono (turn n s _ hI) (fun r s₁ h₁ => ?_) fun _ _ h' => h')))
 cases r with
 | none => exact wpAny_pure h₁
 | some v =>
  refine wpAny_bind (wpAny_mono h₁ (fun _ s₁' h₂ => wpAny_bind (wpAny_mono h₂ (fun _ s₂ h₂ => wpAny_bind (wpAny_mono h₂ (fun ok s₃ h₃ => ?_) fun _ _ h' => h')) fun _ _ h' => h')) fun _ _ h' => h')
  cases ok with
  | false => exact wpAny_pure ⟨rfl, h₃⟩
  | true => exact wpAny_bind (wpAny_bind (wpAny_mono h₃ (fun x s₄ h₄ => wpAny_bind (wpAny_mono h₄ (fun _ s₅ h₅ => wpAny_pure (wpAny_pure ⟨rfl, h₅⟩)) fun _ _ h' => h')) fun _ _ h' => h'))
inductive Tg (K : Sx) : PySem.Expr → List Str → V → List V → Prop
 | one (y : Str) (p : Pos) (x : V) : Tg K (.Name y p) [y] x [x]
 | two (y z : Str) (p q r : Pos) (kk : Nat) (x w : V) (h : y ≠ z) : Tg K (.Tuple [.Name y p, .Name z q] kk r) [y, z] (.tup [x, w]) [x, w]
theorem Tg.assign {t : PySem.Expr} {ys : List Str} {x : V} {xs : List V} {cenv : Env} {m : Str → Option Value} {v : Value} {R : Unit → Shared → Prop} (h : Tg K t ys x xs) (hh : A.handled = none) (sub : ∀ a o, F a = some o → s.heap.get? a = some o) (hl : ∀ y ∈ ys, cenv.kindOf y = some .local) (hp : (cenv.scope.kind == .class || (cenv.scope.kind == .module && cenv.locals != cenv.globals)) = false) (hn : s.heap.Ns cenv.locals m) (hF : F cenv.locals = none) (r : Rel F x v)
  (k : ∀ h' tk m', h'.Ns cenv.locals m' → xs.length = ys.length → (∀ (j : Nat) y x, ys[j]? = some y → xs[j]? = some x → ∃ v, m' y = some v ∧ Rel F x v) → (∀ b o, b ≠ cenv.locals → s.heap.get? b = some o → h'.get? b = some o) → R () { s with heap := h', toks := tk }) : wpAny G.M A (assign t cenv v) R E s := by
 cases h with
 | one y p => exact wpAny_assign_Name (wpAny_storeName_local (hl y (List.mem_cons_self ..)) hn (fun h' hn' hs' => k h' _ _ hn' rfl (fun j z w hz hw => by
   cases j with
   | zero => cases hz; cases hw; exact ⟨v, if_pos rfl, r⟩
   | succ j => cases hz) hs'.extBut) hp)
 | two y z p q rr kk x w hne =>
  obtain ⟨a, _, rfl, ⟨n', e⟩, v, _, rfl, r1, u, _, rfl, r2, rfl⟩ := r
  refine wpAny_assign_Tuple hh ⟨_, sub _ _ e, rfl, n', rfl⟩ rfl rfl fun h₁ hs => ?_
  have hg : ∀ b o, s.heap.get? b = some o → h₁.get? b = some o := fun b o e => hs b o (Nat.ne_of_lt (Heap.lt_size e)) e
  refine wpAny_assignInOrder_more (wpAny_assign_Name (wpAny_storeName_local (hl y (List.mem_cons_self ..)) (Z1 hn fun o e => hg _ o e) (fun h₂ hn₂ hs₂ => ?_) hp))
  refine wpAny_assignInOrder_more (wpAny_assign_Name (wpAny_storeName_local (hl z (List.mem_cons_of_mem _ (List.mem_cons_self ..))) hn₂ (fun h₃ hn₃ hs₃ => ?_) hp))
  refine wpAny_pure (k h₃ _ _ hn₃ rfl (fun j y' x' hy hx => ?_) fun b o hb e => hs₃.extBut b o hb (hs₂.extBut b o hb (hg b o e)))
  match j with
  | 0 => cases hy; cases hx; exact ⟨v, by rw [if_neg hne, if_pos rfl], r1⟩
  | 1 => cases hy; cases hx; exact ⟨u, if_pos rfl, r2⟩
  | j + 2 => cases hy
inductive bL1 {T : Type} (G : Gl) (F : Fz) (s : Shared) (F₁ : Fz) (it D C : Addr) (P : Nat → Heap → Prop) (ts : List T) (f : T → Option V) (m : Nat) (s' : Shared) : Prop
 | mk (i : Nat) (F' : Fz) (mC : Str → Option Value) (vs : List Value) (n : Nat) (hm : m + i = ts.length + 1) (hle : i ≤ ts.length) (S : St G.x N0 F s F' s') (up : ∀ a o, F₁ a = some o → F' a = some o) (h1 : F' it = none) (h2 : F' D = none) (h3 : F' C = none) (hP : P i s'.heap) (hD : s'.heap.get? D = some (z7 vs n)) (rl : RelL F' ((ts.take i).filterMap f) vs) (hn : s'.heap.Ns C mC)
theorem ad5 {T : Type} {Fv : T → V} {Fw : T → List V} {ys : List Str} {tg : PySem.Expr} {ts : List T} (f : T → Option V) (htg : ∀ t, Tg K tg ys (Fv t) (Fw t)) (hchk : N5 K caps ys scope = true) (M3 : Ev G K ρ σ it₀ x) (hi : K2 x = some (ts.map Fv)) (hl : ts.length ≤ sizeLine) (hsf : ∀ env x, foldedSetIterable it₀ env x = pure x) (ht : ∀ t ∈ ts, Turn G (K.comp caps ys scope) (ρc ρ caps (Fw t)) σ ifs e' (f t)) (k : EOk G K A env ρ σ F s)
  {use : Option (Value → Sem Unit)} {Qp : Value → Shared → Prop} {gp : Pos}
  (fin : ∀ D C F' s' mC vs n, St G.x N0 F s F' s' → s.heap.get? D = none → s.heap.get? C = none → D ≠ C → F' D = none → F' C = none → s'.heap.get? D = some (z7 vs n) → RelL F' (ts.filterMap f) vs → s'.heap.Ns C mC → compPost G.M A E use Qp (.ref D) C (.ok .next) s') :
  wpAny G.M A (comprehension (.ListComp e' [⟨tg, it₀, ifs, 0⟩] scope p) scope env gp (newList []) false (eval it₀ env) use) Qp E s := by
 have O := aT7 hchk
 refine wpAny_comprehension_free rfl (hsf env) (aJ8 fun z hz hf => by
  obtain ⟨n, kd⟩ := z
  cases (show kd = .free from hf)
  obtain ⟨_, _, c, _, _, _, h3, _⟩ := ar8 O k hz
  exact ⟨c, h3⟩) O.kind O.locals (M3.bind k fun cv F₁ s₁ S₁ r₁ k₁ => aO3 hi k₁.rm r₁ fun ob P W hP => wpAny_newObj_type ?_)
 refine wpAny_newFunctionEnv (closure := N6 env scope.names []) O.nocell (by intro z hz; simp at hz) (fun h₁ hns₁ hsb₁ => ?_) O.kind
 dsimp only at hns₁ hsb₁ ⊢
 have hitn : s₁.heap.get? s₁.heap.objs.size = none := j9 _
 generalize s₁.heap.objs.size = it at *
 have up₂ : ∀ b o, s₁.heap.get? b = some o → (s₁.heap.push ob).get? b = some o := fun b o e => Heap.get?_push_of_some _ e
 generalize s₁.heap.push ob = H1 at *
 have hDn : H1.get? H1.objs.size = none := j9 _
 have hD0 : (H1.push { cls := .type "list", dict := none, data := .seq ([] : List Value).toArray }).get? H1.objs.size = some (z7 [] 0) := Heap.get?_push_size _ rfl
 have up₃ : ∀ b o, H1.get? b = some o → (H1.push { cls := .type "list", dict := none, data := .seq ([] : List Value).toArray }).get? b = some o := fun b o e => Heap.get?_push_of_some _ e
 have hCn : (H1.push { cls := .type "list", dict := none, data := .seq ([] : List Value).toArray }).get? (H1.push { cls := .type "list", dict := none, data := .seq ([] : List Value).toArray }).objs.size = none := j9 _
 generalize H1.push { cls := .type "list", dict := none, data := .seq ([] : List Value).toArray } = H2 at *
 generalize H1.objs.size = D at *
 generalize H2.objs.size = C at *
 have dead : ∀ {h h' : Heap} {b : Addr}, (∀ b o, h.get? b = some o → h'.get? b = some o) → h'.get? b = none → h.get? b = none := fun {h h' b} u e => by
  cases q : h.get? b with
  | none => rfl
  | some o => exact nS (e.symm.trans (u b o q))
 have hDC : D ≠ C := by rintro rfl; exact nS (hCn.symm.trans hD0)
 have hD1 : s₁.heap.get? D = none := dead up₂ hDn
 have hC1 : s₁.heap.get? C = none := dead up₂ (dead up₃ hCn)
 have hs₁ : ∀ b o, b ≠ C → H2.get? b = some o → h₁.get? b = some o := fun b o hb e => hsb₁.extBut b o hb (Heap.get?_push_of_some _ e)
 have up : ∀ b o, s₁.heap.get? b = some o → h₁.get? b = some o := fun b o e => hs₁ b o (by rintro rfl; exact nS (hC1.symm.trans e)) (up₃ b o (up₂ b o e))
 have S₂ : St G.x N0 F₁ s₁ F₁ { s₁ with heap := h₁, toks := s₁.toks + ([] : List (Str × Value)).length } := .grow k₁.rm.sub up
 obtain ⟨oi, T, ivs, hoi, hci, hdi, _⟩ := W.obj _ _ hP
 have hitC : it ≠ C := by rintro rfl; exact nS (hCn.symm.trans (up₃ _ _ hoi))
 have hitD : it ≠ D := by rintro rfl; exact nS (hDn.symm.trans hoi)
 have hP₂ : P 0 h₁ := W.keep _ _ _ hP (fun a o e => up₂ a o (k₁.rm.sub a o e)) (fun a o e => up a o (k₁.rm.sub a o e)) fun o e => hs₁ it o hitC (up₃ _ _ e)
 have loop : codeAny G.M A (.compLoop (.ListComp e' [⟨tg, it₀, ifs, 0⟩] scope p) 0 (.ref it) (.ref D) (compEnvC scope (N6 env scope.names []) C env)) (compPost G.M A E use Qp (.ref D) C) { s₁ with heap := h₁, toks := s₁.toks + ([] : List (Str × Value)).length } := by
  refine ao7 (bL1 G F s F₁ it D C P ts f) ?_ (ts.length + 1)
   ⟨0, F₁, _, [], 0, rfl, Nat.zero_le _, S₁.trans S₂, fun _ _ e => e, k₁.rm.out hitn, k₁.rm.out hD1, k₁.rm.out hC1, hP₂, hs₁ _ _ hDC hD0, rfl, hns₁⟩
  rintro m s' E' ⟨i, F', mC, vs, n, hm, hile, S', upF, hFi, hFD, hFC, hP', hD', rl, hn'⟩
  have k' := k.step S'
  have sub : ∀ {h : Heap}, (∀ a o, F' a = some o → h.get? a = some o) → ∀ a o, F₁ a = some o → h.get? a = some o := fun h a o e => h a o (upF a o e)
  have sIt := S₁.dead hitn
  have sD := S₁.dead hD1
  have sC := S₁.dead hC1
  rcases Nat.lt_or_ge i ts.length with hlt | hge
  ·obtain ⟨z, hz⟩ : ∃ z, ts[i]? = some z := ⟨_, List.getElem?_eq_getElem hlt⟩
   refine W.item i s' _ _ (Fv z) (by rw [List.getElem?_map, hz]; rfl) hP' fun v h₂ t₂ hr hP₂ hs₂ => ?_
   refine aA7 (W.obj _ _ hP₂) ?_
   have S₄ := S'.priv (t := t₂) hFi sIt hs₂
   have hn₂ : h₂.Ns C mC := Z1 hn' fun o e => hs₂ _ _ hitC.symm e
   refine (htg z).assign (cenv := compEnvC scope (N6 env scope.names []) C env) k.rm.handled S₄.sub (fun y hy => lookup_relabel_local (O.tgt y hy)) (by show ((relabel scope env).kind == .class || ((relabel scope env).kind == .module && _)) = false; rw [show (relabel scope env).kind = .function from O.kind]; rfl) hn₂ hFC (hr.mono upF) fun h₃ t₃ m₃ hn₃ hlw hw₃ hs₃ => ?_
   have S₅ := S₄.priv (t := t₃) hFC sC hs₃
   have k₅ := bg1 O (k.step S₅) hn₃ hFC hlw hw₃
   have hP₃ : P (i + 1) h₃ := W.keep _ _ _ hP₂ (sub S₄.sub) (sub S₅.sub) fun o e => hs₃ it o hitC e
   have hD₃ : h₃.get? D = some (z7 vs n) := hs₃ D _ hDC (hs₂ _ _ hitD.symm hD')
   obtain ⟨oi₃, _, _, hoi₃, _⟩ := W.obj _ _ hP₃
   obtain ⟨oC₃, hoC₃⟩ := U4 hn₃
   have ht' := ht z (List.mem_of_getElem? hz)
   have etk : ts.take (i + 1) = ts.take i ++ [z] := by obtain ⟨h1, h2⟩ := List.getElem?_eq_some_iff.mp hz; rw [List.take_succ_eq_append_getElem h1, h2]
   have next : ∀ {F₆ : Fz} {s₆ : Shared} {ws : List Value} {n' : Nat}, St G.x N0 F s F₆ s₆ → (∀ a o, F' a = some o → F₆ a = some o) → F₆ it = none → F₆ D = none → F₆ C = none → (∀ b o, b ≠ D → h₃.get? b = some o → ∃ o', s₆.heap.get? b = some o' ∧ KeepO G.x o o') → s₆.heap.get? D = some (z7 ws n') → RelL F₆ ((ts.take (i + 1)).filterMap f) ws →
     ∃ m', m' < m ∧ bL1 G F s F₁ it D C P ts f m' s₆ := fun S₆ u6 o1 o2 o3 kp hD₆ rl₆ =>
    ⟨m - 1, by exact bD2 hm hile, i + 1, _, _, _, _, by exact bD1 hm hile, hlt, S₆, fun a o e => u6 a o (upF a o e), o1, o2, o3, W.keep _ _ _ hP₃ (sub S₅.sub) (fun a o e => S₆.sub a o (u6 a o (upF a o e))) fun o e => (kp it o hitD e).elim fun o' q => q.2.elim (fun h => h ▸ q.1) fun h => h.1.elim fun es h => h.elim fun n h => (by obtain ⟨oi', T', vs', h1, _, h3, _⟩ := W.obj _ _ hP₃; rw [show h₃.get? it = some o from e] at h1; cases h1; rw [h3] at h; cases h), hD₆, rl₆, U1 hn₃ fun o e => kp C o hDC.symm e⟩
   refine ht'.test k₅ (fun F₆ s₆ u S₆ k₆ hu hev => ?_) fun F₆ s₆ S₆ hu => ?_
   ·rw [if_pos rfl]
    refine hev.bind k₆ fun w F₇ s₇ S₇ r₇ k₇ => ?_
    have S₆₇ := S₆.trans S₇
    have hD₇ := S₆₇.keep D _ hD₃ id (fun _ _ e => nomatch e)
    have rl₇ := RelL.mono S₆₇.up rl
    refine wpAny_list_append_plain ⟨n, hD₇⟩ (fun h₈ hp hs₈ => ?_) (by rw [List.size_toArray, rl.length]; exact Nat.le_trans (List.length_filterMap_le ..) (Nat.le_trans (List.length_take_le ..) (by exact z3 _ _ _ (.k 1 i9 d5 (.k 1 d5 e9 .o)) c8 e9 tt hlt hl)))
    obtain ⟨n', hp⟩ := hp
    have hp' : h₈.get? D = some (z7 (vs ++ [w]) n') := by rw [hp]; simp [z7]
    have hFD₇ := S₆₇.out hFD hD₃
    have eq : (ts.take (i + 1)).filterMap f = (ts.take i).filterMap f ++ [u] := by rw [etk, List.filterMap_append]; simp [hu]
    exact next ((S₅.trans S₆₇).priv (t := s₇.toks) hFD₇ sD hs₈.extBut) S₆₇.up (S₆₇.out hFi hoi₃) hFD₇ (S₆₇.out hFC hoC₃) (fun b o hb e => (S₆₇.keepO b o e id).imp fun o' q => ⟨hs₈.extBut b o' hb q.1, q.2⟩) hp' (by rw [eq]; exact rl₇.append (.one r₇))
   ·rw [if_neg Bool.false_ne_true]
    refine next (S₅.trans S₆) S₆.up (S₆.out hFi hoi₃) (S₆.out hFD hD₃) (S₆.out hFC hoC₃) (fun b o _ e => S₆.keepO b o e id) (S₆.keep D _ hD₃ id (fun _ _ e => nomatch e)) ?_
    have eq : (ts.take (i + 1)).filterMap f = (ts.take i).filterMap f := by rw [etk, List.filterMap_append]; simp [hu]
    rw [eq]; exact RelL.mono S₆.up rl
  ·cases Nat.le_antisymm hile hge
   refine W.done s' _ _ (by rw [List.length_map]; exact hP') fun h₂ t₂ hs₂ => ?_
   rw [List.take_length] at rl
   exact fin D C F' _ mC vs n (S'.priv (t := t₂) hFi sIt hs₂) sD sC hDC hFD hFC (hs₂ _ _ hitD.symm hD') rl (Z1 hn' fun o e => hs₂ _ _ hitC.symm e)
 exact codeAny_compStart_list loop (W.self _ _ _ _ hP₂ loop)
theorem aC5 {T : Type} {Fv : T → V} {Fw : T → List V} {ys : List Str} {tg : PySem.Expr} {ts : List T} (f : T → Option V) (htg : ∀ t, Tg K tg ys (Fv t) (Fw t)) (M3 : Ev G K ρ σ it₀ x) (hi : K2 x = some (ts.map Fv)) (hl : ts.length ≤ sizeLine) (ht : ∀ t ∈ ts, Turn G (K.comp caps ys scope) (ρc ρ caps (Fw t)) σ ifs e' (f t)) (hchk : N5 K caps ys scope = true) (hsf : ∀ env x, foldedSetIterable it₀ env x = pure x) :
  Ev G K ρ σ (.ListComp e' [⟨tg, it₀, ifs, 0⟩] scope p) (.lst (ts.filterMap f)) := fun A env F s E k => by
 rw [eval_ListComp]
 refine ad5 f htg hchk M3 hi hl hsf ht k fun D C F' s' mC vs n S hD hC hDC hFD hFC hl' rl hn => ⟨mC, hn, fun h' hs' => ?_⟩
 have hD' : h'.get? D = some (z7 vs n) := by rw [hs'.2 D hDC]; exact hl'
 have S' := S.priv (t := s'.toks) hFC hC hs'.extBut
 exact ⟨_, S'.freeze hD hD' hFD, D, vs, rfl, ⟨n, Fz.add_self⟩, rl.mono fun a o e => (if_neg (by rintro rfl; exact nS (hFD.symm.trans e))).trans e⟩
theorem aa5 {T : Type} {Fv : T → V} {ts : List T} (f : T → Option V) (M3 : Ev G K ρ σ it₀ x) (hi : K2 x = some (ts.map Fv)) (hl : ts.length ≤ sizeLine) (ht : ∀ t ∈ ts, Turn G (K.comp caps [y] scope) (ρc ρ caps [Fv t]) σ ifs e' (f t)) (hchk : N5 K caps [y] scope = true := by decide +kernel) (hsf : ∀ env x, foldedSetIterable it₀ env x = pure x := by intros; rfl) :
  Ev G K ρ σ (.ListComp e' [⟨.Name y py, it₀, ifs, 0⟩] scope p) (.lst (ts.filterMap f)) := aC5 f (fun t => .one y py _) M3 hi hl ht hchk hsf
noncomputable def as9 (K : Sx) (n : Str) (l l' : Nat) (scope : Scope) : Bool := (K.sc.names.lookup n == some .local) && l == l' && !(scope.names.any fun (m, k) => m == n && (k == .local || k == .cell))
theorem ba6 {n : Str} {l : Nat} {gs : List Comprehension} (h : as9 K n q.line p.line scope = true) (h1 : env.scope = K.sc) (h2 : env.scope.kind = .function) : swapsWith (.ListComp e' gs scope p) (some (.Name n q)) l env = pure true := by
 unfold as9 at h
 rw [← h1] at h
 have e : swapsWith (.ListComp e' gs scope p) (some (.Name n q)) l env = pure (env.blockKind == .function && env.kindOf n == some .local && q.line == p.line && !(scope.names.any fun (m, k) => m == n && (k == .local || k == .cell))) := rfl
 rw [e]
 have h3 : (env.blockKind == .function) = true := by unfold Env.blockKind; rw [h2]; rfl
 rw [h3]
 exact congrArg pure h
theorem J3 (i : Nat) {n : Str} {Q : KS} {ss : List Stmt} {p' : Pos} {T : Type} {Fv : T → V} {ts : List T} (f : T → Option V)  (M3 : Ev G K ρ σ it₀ x) (hi : K2 x = some (ts.map Fv)) (hl : ts.length ≤ sizeLine) (ht : ∀ t ∈ ts, Turn G (K.comp caps [y] scope) (ρc ρ caps [Fv t]) σ ifs e' (f t)) (h : WS G K ss (ρ.set i (.lst (ts.filterMap f))) σ Q) (hx : w0 K i n = true := by decide +kernel) (hchk : N5 K caps [y] scope = true := by decide +kernel) (hsw : as9 K n q.line p.line scope = true := by decide +kernel) (hsf : ∀ env x, foldedSetIterable it₀ env x = pure x := by intros; rfl) : WS G K (.Assign [.Name n q] (.ListComp e' [⟨.Name y py, it₀, ifs, 0⟩] scope p) p' :: ss) ρ σ Q :=
 w4 fun A env F s E k => by
  rw [exec_Assign_Name_used _ _ _ _ (ba6 hsw k.e.sc k.e.kind)]
  refine wpAny_bind (wpAny_standAt (wpAny_bind ?_))
  show wpAny _ A (do let _ ← comprehension (.ListComp e' [⟨.Name y py, it₀, ifs, 0⟩] scope p) scope env _ (newList []) false (eval it₀ env) (some (assign (.Name n q) env))) _ _ s
  refine wpAny_bind (wpAny_mono (ad5 (Qp := fun _ s' => PS G K A env σ F s (Kc G K ss Q) .next s') f (fun t => .one y py _) hchk M3 hi hl hsf ht k.e fun D C F' s' mC vs nn S hD hC hDC hFD hFC hl' rl hn => ?_) (fun _ s' hq => wpAny_pure (wpAny_pure hq)) fun _ _ e => e)
  have S₂ := S.freeze hD hl' hFD
  have hFC₂ : F'.add D (z7 vs nn) C = none := (if_neg hDC.symm).trans hFC
  have k₂ := k.step S₂
  have hnl : ∀ b o, s.heap.get? b = some o → b ≠ C := fun b o e => by rintro rfl; exact nS (hC.symm.trans e)
  have hCown : ¬ Own env C := by
   rintro (e | ⟨z, hz⟩)
   ·obtain ⟨mm, hm, _⟩ := k.e.loc.vars
    obtain ⟨o, ho⟩ := U4 hm
    exact hnl _ _ ho e.symm
   ·obtain ⟨⟨ov, oc, h1, _⟩, _⟩ := k.own z C hz
    exact hnl _ _ h1 rfl
  show wpAny _ A (assign (.Name n q) env (.ref D)) _ _ s'
  refine wpAny_assign_Name (A5 (x := .lst (ts.filterMap f)) k₂ hx ⟨D, vs, rfl, ⟨nn, Fz.add_self⟩, rl.mono fun a o e => (if_neg (by rintro rfl; exact nS (hFD.symm.trans e))).trans e⟩ fun h' t k₃ L₃ hk₃ => ⟨mC, Z1 hn fun o e => hk₃ C o hCown e, fun h'' hs'' => ?_⟩)
  refine ⟨.next, _, σ, _, trivial, k₃.other (t := t) hFC₂ hs''.extBut hCown (k.e.rm.nofr fun o es n e => nS (hC.symm.trans e)) (fun a zs q => (k₃.e.own a zs q).imp id fun h2 => h2.imp fun o h2 => ⟨hs''.extBut _ _ ?_ h2.1, h2.2⟩) k₃.sep, (S₂.lk.trans L₃).priv hFC₂ hC hs''.extBut, h⟩
  rintro rfl
  exact (k.e.own _ zs q).2.elim fun _ q => nS (hC.symm.trans q.1)
end
end Mine
namespace Mine
open PySem PySem.W PyProof.Rows
theorem aI0 : ∀ {ns : List Str} {vs : List Value}, ns.Nodup → vs.length = ns.length → ns.filterMap (fun n => ((ns.zip vs).lookup n).map (n, ·)) = ns.zip vs := by
 intro ns vs hn hl
 have key : ∀ (ps : List (Str × Value)) (l : List Str) (w : List Value), l.Nodup → w.length = l.length → (∀ n ∈ l, ps.lookup n = none) → l.filterMap (fun n => ((ps ++ l.zip w).lookup n).map (n, ·)) = l.zip w := by
  intro ps l
  induction l generalizing ps with
  | nil => intro w _ _ _; simp
  | cons a l ih =>
   intro w hn hw hp
   cases w with
   | nil => simp at hw
   | cons v w =>
    have ha : ps.lookup a = none := hp a (List.mem_cons_self ..)
    have e1 : (ps ++ (a :: l).zip (v :: w)).lookup a = some v := by
     rw [List.zip_cons_cons, List.lookup_append, ha]; simp
    rw [List.filterMap_cons, e1]
    have e2 : ps ++ (a :: l).zip (v :: w) = (ps ++ [(a, v)]) ++ l.zip w := by simp
    simp only [Option.map_some]
    rw [e2, ih (ps ++ [(a, v)]) w (List.nodup_cons.mp hn).2 (by simpa using hw) (fun n hm => ?_)]
    ·simp
    ·rw [List.lookup_append, hp n (List.mem_cons_of_mem _ hm)]
     have hne : n ≠ a := by rintro rfl; exact (List.nodup_cons.mp hn).1 hm
     have : (n == a) = false := by simpa using hne
     simp [List.lookup_cons, this]
 simpa using key [] ns vs hn hl (by simp)
theorem R9 : ∀ {ns : List Str} {vs : List Value} {n : Str}, vs.length = ns.length → n ∈ ns → ((ns.zip vs).lookup n).isNone = false
 | a :: l, v :: w, n, hl, hm => by
  rw [List.zip_cons_cons, List.lookup_cons]
  by_cases e : n = a
  ·subst e; simp
  ·have : (n == a) = false := by simpa using e
   rw [this]
   exact R9 (by simpa using hl) (by rcases List.mem_cons.mp hm with h | h; exact absurd h e; exact h)
 | _ :: _, [], _, hl, _ => by simp at hl
theorem af5 {fd : FuncData} {ns : List Str} {vs : List Value} (h1 : fd.params.posonlyargs = []) (h2 : fd.params.args.map (·.arg) = ns) (h3 : fd.params.kwonlyargs = []) (h4 : fd.params.vararg = none) (h5 : fd.params.kwarg = none)
  (h6 : fd.defaults = .none) (hn : ns.Nodup) (hl : vs.length = ns.length) : bindArgs fd ⟨vs, []⟩ = pure (ns.zip vs) := by
 obtain ⟨_, _, ⟨p1, as, p3, p4, _, p6, _⟩, _, _, _, _, df, _, _, _, _, _, _, _⟩ := fd
 replace h1 : p1 = [] := h1
 replace h3 : p4 = [] := h3
 replace h4 : p3 = none := h4
 replace h5 : p6 = none := h5
 replace h6 : df = .none := h6
 replace h2 : as.map (·.arg) = ns := h2
 subst h1 h3 h4 h5 h6 h2
 have hm : ((as.map (·.arg)).filter fun n => (((as.map (·.arg)).zip vs).lookup n).isNone) = [] := by
  rw [List.filter_eq_nil_iff]; intro n hn'; rw [R9 hl hn']; decide
 refine (if_neg ?_).trans ((if_neg ?_).trans ?_)
 ·show ¬ (decide (vs.length > (as.map (·.arg)).length) && true) = true
  rw [hl, decide_eq_false (Nat.lt_irrefl _)]; decide
 ·show ¬ (!(((as.map (·.arg)).take ((as.map (·.arg)).length - (List.drop (0 - (as.map (·.arg)).length) ([] : List Value)).length)).filter fun n => (((as.map (·.arg)).zip vs).lookup n).isNone).isEmpty) = true
  rw [List.drop_nil, List.length_nil, Nat.sub_zero, List.take_of_length_le (Nat.le_refl _), hm]; decide
 ·refine (congrArg (fun l => forIn (List.zip _ l) _ _ >>= _) List.drop_nil).trans ?_
  refine (congrArg (fun l => forIn l _ _ >>= _) List.zip_nil_right).trans ?_
  refine Eq.trans ?_ (congrArg (pure (f := Sem)) (aI0 hn hl))
  exact congrArg (fun l => pure (f := Sem) (List.filterMap (fun n => (((as.map (·.arg)).zip vs).lookup n).map (n, ·)) l)) (List.append_nil (as.map (·.arg)))
structure Fn where
 ns : List Str
 np : Nat
noncomputable def aN1 (p : Program) (f : Str) : Option DefRec := (recsOf p).find? fun d => d.name == f
noncomputable def aK1 (p : Program) (f : Str) : List Stmt := match aN1 p f with | some d => d.body | none => []
noncomputable def bm5 (p : Program) (f : Str) (F : Fn) : Sx := match aN1 p f with | some d => ⟨d.scope, F.ns⟩ | none => ⟨default, []⟩
noncomputable def at7 (p : Program) (f : Str) (F : Fn) : Bool := match aN1 p f with
 | some d => d.params.posonlyargs.isEmpty && (d.params.args.map (·.arg) == F.ns.take F.np) && d.params.kwonlyargs.isEmpty && d.params.vararg.isNone && d.params.kwarg.isNone && af3 ⟨d.scope, F.ns⟩ F.np
 | none => false
section
variable {p : Program} {loose : List Str} {mean : ExcName → Option Value} {mg mb : Str → Option Value} {h : Heap} {prog : Program} {w : World} {dd : Nat}
theorem by3 (T : Top p loose mean mg mb h) {f : Str} {F : Fn} (hk : at7 p f F = true) : FnAt h mg f (bm5 p f F) F.np (aK1 p f) := by
 unfold bm5 aK1
 unfold at7 at hk
 split at hk
 ·rename_i d hd
  simp only [Bool.and_eq_true, List.isEmpty_iff, Option.isNone_iff_eq_none, beq_iff_eq] at hk
  obtain ⟨⟨⟨⟨⟨k1, k2⟩, k3⟩, k4⟩, k5⟩, k6⟩ := hk
  have hn : d.name = f := eq_of_beq (List.find?_some (p := fun d : DefRec => d.name == f) hd)
  obtain ⟨a, o, pm, code, doc, h1, h2, h3, h4⟩ := T.fn d (List.mem_of_find?_eq_some hd)
  rw [hn] at h1
  have e : fnA mg f = a := by unfold fnA; simp only [h1]
  have k7 := k6
  unfold af3 at k7
  simp only [Bool.and_eq_true, decide_eq_true_eq] at k7
  refine ⟨⟨o, _, ?_, ?_, h3, h4, rfl, rfl, rfl, rfl, fun vs hl => ?_, rfl⟩, k6⟩
  ·rw [e]; exact h1
  ·rw [e]; exact h2
  ·exact af5 k1 k2 k3 k4 k5 rfl (k7.1.2.sublist (List.take_sublist ..)) (by rw [List.length_take, Nat.min_eq_left k7.2]; exact hl)
 ·cases hk
noncomputable def ah3 (p : Program) (loose : List Str) (x : Str) : Bool :=
 !(startupNames.contains x) && !(loose.contains x) && !(((recsOf p).map (·.name)).contains x) && !(((litsOf p).map (·.1)).contains x) && !(((clssOf p loose).map (·.name)).contains x) && !(x == ("__name__" : Str))
theorem ae4 (T : Top p loose mean mg mb h) {x : Str} (hk : ah3 p loose x = true) : mg x = none ∧ mb x = bootBuiltins x := by
 unfold ah3 at hk
 simp only [Bool.and_eq_true, Bool.not_eq_true', beq_eq_false_iff_ne, ne_eq] at hk
 obtain ⟨⟨⟨⟨⟨k1, k2⟩, k3⟩, k4⟩, k5⟩, k6⟩ := hk
 have f : ∀ {l : List Str}, l.contains x = false → x ∉ l := fun hc hm => by rw [List.contains_iff_mem.mpr hm] at hc; cases hc
 exact ⟨T.free x (f k1) (f k2) (f k3) (f k4) (f k5), T.builtins x k6⟩
theorem bh3 : ∀ y ∈ aD7, bootBuiltins y.1 = some y.2 := by
 intro y hy
 simp only [aD7, List.mem_cons, List.not_mem_nil, or_false] at hy
 rcases hy with rfl | rfl | rfl | rfl | rfl | rfl | rfl | rfl | rfl | rfl | rfl | rfl | rfl | rfl | rfl | rfl <;> decide +kernel
theorem by2 (T : Top p loose mean mg mb h) (hb : (aD7.all fun y => ah3 p loose y.1) = true) : Gl.Ok ⟨prog, w, h, mg, mb, dd, false⟩ :=
 ⟨T.g, T.b, T.nolimit, fun i x v hi => have hm := List.mem_of_getElem? hi; let ⟨a, b⟩ := ae4 T (List.all_eq_true.mp hb _ hm); ⟨a, b.trans (bh3 _ hm)⟩⟩
end
theorem bd8 (l : OpenLaw) (args : List WData) : l.row.claim.post args (.bool true) args = true := by
 show (WShape.has [] (.bool true) .bool && WTm.holds [] (.eq .res (.lit (.bool true))) { args := args, res := some (.bool true), after := args }) = true
 simp [WShape.has, WTm.holds, WTm.value, same, WShape.arms]
theorem bp7 {G : Gl} (GO : G.Ok) {s : Shared} {fa : Addr} (hf : G.fn "law" = fa) (hs : s.heap = G.B) (hd : G.d = 680) (hg : s.gens = #[]) {a : Addr} {vs : List Value} {zs : List Int} (hL : s.heap.IsList a vs.toArray) (hI : IntsAre vs zs)
  {c : ClaimW} {cl : Str → Option Addr} {mean : ExcName → Option Value} {args : List WData} (hn : ∀ cls, c.raises args cls = false) (hp : c.post args (.bool true) args = true)
  {K : Sx} {sts : List Stmt} (FA : FnAt G.B G.mg "law" K 1 sts) (h : WS G.dn K sts (.scr (zs.map .int) :: List.replicate (K.ns.length - 1) .unb) σ0 (ao1 (.bool true))) :
  codeAny G.M callerA (.call (.ref fa) ⟨[.ref a], []⟩) (GoodWG c cl mean args s) s := by
 subst hf
 have hr : ∀ {F : Fz} {vs : List Value} {zs : List Int}, IntsAre vs zs → RelL F (zs.map .int) vs := by
  intro F vs zs hI
  induction hI with
  | nil => rfl
  | cons _ _ _ ih => exact ⟨_, _, rfl, ⟨_, rfl⟩, ih⟩
 have k : Rm G callerA s.heap.get? s := ⟨GO, fun a o e => hs ▸ e, fun _ _ e => e, by rw [hd]; show 1 + claimMargin + 680 ≤ 1000; decide, by rw [hd]; decide, rfl, [], rfl, fun _ m => nomatch m⟩
 refine L4 FA.o (xs := [.scr (zs.map .int)]) (F := s.heap.get?) rfl (by rw [hd]; decide) h k ⟨_, _, rfl, ⟨a, vs, rfl, hL, hr hI⟩, rfl⟩ (fun _ _ q => nomatch q) fun fl v σ' F' s' hf own S d q => ?_
 have hv : v = .bool true := by
  obtain ⟨ρ, q⟩ := q
  rcases hf with hf | ⟨rfl, rfl⟩
  ·cases fl with
   | next => exact hf.elim
   | ret x =>
    generalize hz : V.bool true = z at q
    cases (show Res σ' x z from q) with
    | id => subst hz; exact hf
    | own => cases hz
    | tup => cases hz
    | gen => cases hz
  ·exact nomatch (show V.bool true = .none from q)
 subst hv
 refine GoodW.toG ⟨.inl ⟨_, _, [], rfl, hn, .bool true, hp, unshared_nil⟩, fun b o e => ?_, ?_, ?_⟩
 ·exact S.sub b o (S.up b o e)
 ·rw [S.rest]
 ·rw [S.rest]; exact hg
end Mine
namespace Mine
open PySem PyProof.Rows
section
variable {G : Gl} {K : Sx} {A : Around} {env : Env} {ρ : List V} {σ : Ow} {F F₁ : Fz} {s s₁ : Shared} {E : Value → Shared → Prop} {Q : KS} {e l r : PySem.Expr} {es : List PySem.Expr} {ss : List Stmt} {x y z : V} {p q q' pc : Pos} {b : Bool} {a a' : List Nat} {xs ys zs : List V} {f : Str}
theorem n9 (h1 : Ev G K ρ σ e x) (h : WS G K ss ρ σ Q) (hs : ∀ env, swapsWith e none p.line env = pure false := by intros; rfl) : WS G K (.Expr e p :: ss) ρ σ Q :=
 w4 fun A env F s E k => wpAny_Expr_any (h1.bind k.e fun v F₁ s₁ S r k₁ => ⟨.next, ρ, σ, F₁, trivial, k.step S, S.lk, h⟩) (by unfold interactive; rw [k.e.kind]; rfl) (hs env)
theorem bf7 {c : Addr} (h : Pure G f (.lst ys :: xs) (.bool b)) (h1 : Ev G K ρ σ e (.ref c)) (hc : σ c = some (.lst ys)) (ha : EvL G K ρ σ es xs) (hs : (e :: es).all f0 = true := by rfl) (hg : j8 K f = true := by decide +kernel) : Ev G K ρ σ (.Call (.Name f q) (e :: es) [] p) (.bool b) := fun A env F s E k => by
 obtain ⟨o, fd, hf, ho, hfd⟩ := h.is
 refine wpAny_Call_NameR (n7 k (.inl hf) hg ?_)
 rw [m6 p env hs]
 refine Calls.callWith_function (l8 (o8 (e :: es) env) ((b8 h1 ha).bind k fun vs F₁ s₁ S₁ r₁ k₁ => ⟨⟨k₁.rm.in _ _ ho, hfd⟩, ?_⟩))
 obtain ⟨v, ws, rfl, rv, rl⟩ := r₁
 cases show v = .ref c from rv
 obtain ⟨hF, us, n, hu, ru⟩ := k₁.lst c ys hc
 have up : ∀ a o, F₁ a = some o → F₁.add c (z7 us n) a = some o := fun a o e => (if_neg (by rintro rfl; exact nS (hF.symm.trans e))).trans e
 have R₂ : Rm G A (F₁.add c (z7 us n)) s₁ := ⟨k₁.rm.go, fun a o e => up a o (k₁.rm.base a o e), fun a o e => by
  by_cases h : a = c
  ·subst h; cases Fz.add_self.symm.trans e; exact hu
  ·exact k₁.rm.sub a o ((if_neg h).symm.trans e), k₁.rm.depth, k₁.rm.units, k₁.rm.handled, k₁.rm.frs fun L _ hL t => ⟨(if_neg (by rintro rfl; obtain ⟨o, es, m, e, hd⟩ := t; cases hu.symm.trans e; cases hd)).trans hL, t⟩⟩
 refine wpAny_mono (h.run A _ s₁ E _ R₂ ⟨_, ws, rfl, ⟨c, us, rfl, ⟨n, Fz.add_self⟩, ru.mono up⟩, rl.mono up⟩) (fun v s₂ q => q.casesOn fun F₂ S₂ r₂ => ⟨F₁, S₁.trans ⟨fun _ _ e => e, fun a o e => S₂.sub a o (S₂.up a o (up a o e)), S₂.keepO, S₂.live, fun _ _ e => .inl e, S₂.rest⟩, r₂⟩) fun _ _ e => e
inductive PN (X : Bool) (F : Fz) (s : Shared) (zs : List V) (v : Value) (s' : Shared) : Prop
 | mk (F' : Fz) (a : Addr) (vs : List Value) (n : Nat) (S : St X N0 F s F' s') (hv : v = .ref a) (hn : s.heap.get? a = none) (hF : F' a = none) (ho : s'.heap.get? a = some (z7 vs n)) (r : RelL F' zs vs)
structure New (G : Gl) (f : Str) (xs zs : List V) : Prop where
 is : ∃ o fd, G.mg f = some (.ref (G.fn f)) ∧ G.B.get? (G.fn f) = some o ∧ o.data = .func fd
 run : ∀ A F s E vs, Rm G A F s → RelL F xs vs → wpAny G.M A (call (.ref (G.fn f)) vs) (PN G.x F s zs) E s
theorem New.pure (h : New G f xs zs) : Pure G f xs (.lst zs) :=
 ⟨h.is, fun A F s E vs k r => wpAny_mono (h.run A F s E vs k r) (fun v s' q => q.casesOn fun F' a us n S hv hn hF ho ru => ⟨_, S.freeze hn ho hF, a, us, hv, ⟨n, Fz.add_self⟩, ru.mono fun b o e => (if_neg (by rintro rfl; exact nS (hF.symm.trans e))).trans e⟩) fun _ _ e => e⟩
def bM3 (zs : List V) : KS := fun fl _ σ => match fl with | .ret x => ∃ a, x = .ref a ∧ σ a = some (.lst zs) | .next => False
theorem bz5 {np : Nat} {sts : List Stmt} (FA : FnAt G.B G.mg f K np sts) (hlen : xs.length = np) (hd : 0 < G.d) (h : WS G.dn K sts (xs ++ List.replicate (K.ns.length - np) .unb) σ0 (bM3 zs)) : New G f xs zs :=
 ⟨FA.obj.imp fun _ q => q.imp fun _ q => ⟨q.1, q.2.1, q.2.2.1⟩, fun A F s E vs k r => wpAny_call (L4 FA.o hlen hd h k r (fun _ _ q => nomatch q) fun fl v σ' F' s' hf own S d q => by
  obtain ⟨ρ, q⟩ := q
  rcases hf with hf | ⟨rfl, rfl⟩
  ·cases fl with
   | next => exact hf.elim
   | ret x =>
    obtain ⟨a, rfl, ha⟩ := q
    obtain ⟨hF, _, hu, us, n, rfl, ru⟩ := own a _ ha
    exact ⟨F', a, us, n, S.weaken fun b o _ q => q.elim fun _ q => (nomatch q.1), hf, (d a _ ha).elim (fun q => q.elim fun _ q => (nomatch q.1)) id, hF, hu, ru⟩
  ·exact q.elim)⟩
theorem FOk.owned {v : Value} (k : FOk G K A env ρ σ F s) (h : PN G.x F s zs v s₁) : ∃ a F₁, v = .ref a ∧ σ a = none ∧ FOk G K A env ρ (σ.set a zs) F₁ s₁ ∧ Lk G.x env σ F s (σ.set a zs) F₁ s₁ :=
 h.casesOn fun F₁ a us n S hv hn hF ho ru => by
  have k' := k.step S
  have hσ : σ a = none := by
   cases q : σ a with
   | none => rfl
   | some xs => exact (k.e.own _ xs q).2.elim fun _ q => nS (hn.symm.trans q.1)
  refine ⟨a, F₁, hv, hσ, ⟨⟨k'.e.rm, k'.e.sc, k'.e.kind, k'.e.globals, k'.e.builtins, fun b xs q => ?_, k'.e.loc⟩, k'.top, k'.apart, k'.nodup, k'.own, k.setSep (k.newSep hn)⟩, S.any, fun b xs q => ?_⟩
  ·by_cases h : b = a
   ·subst h; cases (Ow.set_self ..).symm.trans q; exact ⟨hF, _, ho, us, n, rfl, ru⟩
   ·exact k'.e.own b xs ((Ow.set_ne _ _ h).symm.trans q)
  ·by_cases h : b = a
   ·exact .inr (h ▸ hn)
   ·exact .inl ⟨xs, (Ow.set_ne _ _ h).symm.trans q, id⟩
theorem PN.from {v : Value} {s' : Shared} (S : St G.x N0 F s F₁ s₁) (h : PN G.x F₁ s₁ zs v s') : PN G.x F s zs v s' := h.casesOn fun F' a vs n S' hv hn hF ho r => ⟨F', a, vs, n, S.trans S', hv, S.dead hn, hF, ho, r⟩
theorem ay0 {caps : List Nat} {n : Str} {py : Pos} {it₀ e' : PySem.Expr} {ifs : List PySem.Expr} {scope : Scope} {T : Type} {Fv : T → V} {ts : List T} (g : T → Option V) (M3 : Ev G K ρ σ it₀ x) (hi : K2 x = some (ts.map Fv)) (hl : ts.length ≤ sizeLine) (ht : ∀ t ∈ ts, Turn G (K.comp caps [n] scope) (ρc ρ caps [Fv t]) σ ifs e' (g t)) (h : ∀ a, σ a = none → Q (.ret (.ref a)) ρ (σ.set a (ts.filterMap g))) (hchk : N5 K caps [n] scope = true := by decide +kernel) (hsf : ∀ env x, foldedSetIterable it₀ env x = pure x := by intros; rfl) :
  WS G K (.Return (some (.ListComp e' [⟨.Name n py, it₀, ifs, 0⟩] scope p)) q :: ss) ρ σ Q :=
 w4 fun A env F s E k => wpAny_Return_some (by
  rw [eval_ListComp]
  refine ad5 g (fun t => .one n py _) hchk M3 hi hl hsf ht k.e fun D C F' s' mC vs n S hD hC hDC hFD hFC hl' rl hn => ⟨mC, hn, fun h' hs' => ?_⟩
  have hD' : h'.get? D = some (z7 vs n) := by rw [hs'.2 D hDC]; exact hl'
  obtain ⟨a, F₂, e, hσ, k₂, L₂⟩ := k.owned (v := .ref D) (⟨F', D, vs, n, S.priv (t := s'.toks) hFC hC hs'.extBut, rfl, hD, hFD, hD', rl⟩ : PN G.x F s _ _ _)
  cases e
  exact ⟨.ret (.ref D), ρ, _, F₂, rfl, k₂, L₂, h D hσ⟩)
end
end Mine
namespace Mine
open PySem PySem.W PyProof.Rows
section
variable {G : Gl} {A : Around} {F₀ F : Fz} {s s₀ : Shared} {E : Value → Shared → Prop}
def KJ (F : Fz) (x : f9) (r : J6) : Prop := (∃ t, x.1 = .str ⟨r.1.toArray⟩ t) ∧ Rel F (l9 r) x.2
theorem be1 : ∀ {rs : List J6} {ks vs : List Value}, RelL F (rs.map fun r => .str r.1) ks → RelL F (rs.map l9) vs → Paired (KJ F) (ks.zip vs) rs
 | [], _, _, rfl, rfl => .nil
 | _ :: _, _, _, ⟨_, _, rfl, r1, r⟩, ⟨_, _, rfl, r2, r'⟩ => .cons ⟨r1, r2⟩ (be1 r r')
theorem av0 : ∀ {L : List f9} {rs : List J6}, Paired (KJ F) L rs → RelL F (rs.map l9) (L.map (·.2))
 | _, _, .nil => rfl
 | _, _, .cons h t => ⟨_, _, rfl, h.2, av0 t⟩
theorem bA0 {x y : f9} {r r' : J6} (hx : KJ F x r) (hy : KJ F y r') : wpAny G.M A (keyLt' oneType' x.1 y.1) (fun c s' => c = C8 r r' ∧ s' = s) E s := by
 obtain ⟨⟨t, ht⟩, _⟩ := hx
 obtain ⟨⟨u, hu⟩, _⟩ := hy
 rw [ht, hu, keyLt'_oneType]
 refine oneLt_str ⟨?_, rfl⟩
 unfold C8; rfl
structure KAt (X : Bool) (F₀ : Fz) (s₀ : Shared) (F : Fz) (s : Shared) (aa kS : Addr) (keys : Array Value) (e1 : Nat) : Prop where
 S : St X N0 F₀ s₀ F s
 k : ∃ e, s.heap.get? kS = some (seqObj "list" keys e)
 ha : s.heap.get? aa = some (seqObj "list" #[] e1)
 k0 : s₀.heap.get? kS = none
 a0 : s₀.heap.get? aa = none
 fk : F kS = none
 fa : F aa = none
 ne : aa ≠ kS
set_option maxHeartbeats 4000000 in
theorem bw3 {a kS : Addr} {keys : Array Value} {e1 : Nat} {st : SortSt} {L' : List f9} {P : Fin → Shared → Prop} (k : KAt G.x F₀ s₀ F s a kS keys e1) (hkl : keys.size ≤ 10000) (hst : arrOf st = L'.toArray) (hf : failedOf st = none) (hl : L'.length ≤ 10000)
  (h : ∀ s' c, St G.x N0 F₀ s₀ F s' → s'.heap.get? a = some (seqObj "list" (L'.map (·.2)).toArray c) → P (.done (.ret .none)) s') : wpAny G.M A (ksk_tail a false e1 (.ref kS) st) P E s := by
 obtain ⟨S, ⟨e, hk⟩, ha, k0, a0, fk, fa, hne⟩ := k
 have hzz : (arrOf st).map (·.2) = (L'.map (·.2)).toArray := by rw [hst]; simp
 unfold ksk_tail
 try dsimp only
 simp only [Bool.false_eq_true, if_false]
 refine wpAny_bind (listUpdate_at hk rfl ?_ (by rw [sizeLine_eq]; exact aw3 hkl) (Nat.zero_le _))
 have S1 := S.priv (t := s.toks) fk k0 (Heap.SameBut.update s.heap kS (Obj.mapSeq fun _ => (#[] : Array Value))).extBut
 have ha1 : (s.heap.update kS (Obj.mapSeq fun _ => (#[] : Array Value))).get? a = some (seqObj "list" #[] e1) := ((Heap.SameBut.update s.heap kS (Obj.mapSeq fun _ => (#[] : Array Value))).2 a hne).trans ha
 refine wpAny_bind (wpAny_letGo ?_)
 refine wpAny_bind (seqEpoch_at ha1 rfl ?_)
 refine wpAny_bind (listUpdate_at ha1 rfl ?_ (Nat.zero_le _) (by rw [hzz, List.size_toArray, List.length_map, sizeLine_eq]; exact o5 _ (.k 1 c8 (.num 10000) .o) c8 (.add (.num 16777216) k9) tt hl))
 have S2 := S1.priv (t := s.toks) fa a0 (Heap.SameBut.update (s.heap.update kS (Obj.mapSeq fun _ => (#[] : Array Value))) a (Obj.mapSeq fun _ => (arrOf st).map (·.2))).extBut
 rw [hf]
 simp only [bne_self_eq_false, Bool.false_eq_true, if_false]
 obtain ⟨c2, hc2⟩ : ∃ c2, ((s.heap.update kS (Obj.mapSeq fun _ => (#[] : Array Value))).update a (Obj.mapSeq fun _ => (arrOf st).map (·.2))).get? a = some (seqObj "list" ((arrOf st).map (·.2)) c2) := ⟨_, get?_update_seq ha1 fun _ => (arrOf st).map (·.2)⟩
 exact wpAny_pure (h _ c2 S2 (hc2.trans (congrArg (fun x => some (seqObj "list" x c2)) hzz)))
theorem bM6 {a kS : Addr} {vs : List Value} {rs : List J6} {keys : Array Value} {e1 : Nat} {P : Fin → Shared → Prop} (k : KAt G.x F₀ s₀ F s a kS keys e1) (rk : RelL F (rs.map fun r => .str r.1) keys.toList) (rv : RelL F (rs.map l9) vs) (hl : rs.length ≤ 10000)
  (h : ∀ (s' : Shared) (c : Nat) (out : List Value) (rs' : List J6), St G.x N0 F₀ s₀ F s' → s'.heap.get? a = some (seqObj "list" (List.toArray out) c) → RelL F (rs'.map l9) out → rs'.Perm rs → rs'.Pairwise (fun a b => C8 b a = false) → P (.done (.ret .none)) s') : wpAny G.M A (ksk_end a false vs.toArray e1 (.ref kS) keys) P E s := by
 have hkl : keys.size = rs.length := by have := rk.length; simpa using this
 have hvl : vs.length = rs.length := by have := rv.length; simpa using this
 have J := be1 rk rv
 have hz : keys.zip vs.toArray = (keys.toList.zip vs).toArray := by apply Array.ext'; simp
 unfold ksk_end
 try dsimp only
 simp only [Bool.false_eq_true, if_false]
 have hsz : vs.toArray.size = vs.length := by simp
 by_cases h2 : vs.toArray.size < 2
 ·rw [if_pos h2, if_pos h2]
  refine wpAny_bind (wpAny_pure ?_)
  rw [StateT.run_pure]
  refine wpAny_bind (wpAny_pure ?_)
  try dsimp only
  refine bw3 (st := SortSt.mk' general' (keys.zip vs.toArray) #[] 7 none) k (by exact z3 _ _ _ (.k 1 c8 d5 (.k 1 D9 I7 (.k 1 d5 e9 .o))) c8 (.num 10000) tt (Nat.le_of_eq hkl) h2 (Nat.le_of_eq (Eq.symm hvl))) (show keys.zip vs.toArray = _ from hz) rfl (by rw [List.length_zip, Array.length_toList]; exact bS5 h2) fun s' c S' h1 => h s' c _ rs S' h1 (av0 J) (.refl _) ?_
  match rs, hvl with
  | [], _ => exact .nil
  | [_], _ => exact List.pairwise_singleton ..
  | _ :: _ :: _, hvl => simp at hvl; exact (f'2 _ _ (.k 1 i9 I7 (.k 1 (.add y0 k9) c8 .o)) tt h2 (Nat.le_of_eq (Eq.symm hvl))).elim
 ·rw [if_neg h2, if_neg h2]
  have hkind : keyKind' keys = pure oneType' := by
   have hall : ∀ {rs : List J6} {vs : List Value}, RelL F (rs.map fun r => .str r.1) vs → ∀ v ∈ vs, ∃ x t, v = .str x t := by
    intro rs
    induction rs with
    | nil => intro vs r v hv; cases (show vs = [] from r); cases hv
    | cons r0 rs ih =>
     rintro _ ⟨_, ws, rfl, ⟨t, rfl⟩, r⟩ v hv
     rcases List.mem_cons.mp hv with rfl | hv
     ·exact ⟨_, _, rfl⟩
     ·exact ih r v hv
   have hall := hall rk
   obtain ⟨v₁, v₂, rest, e⟩ : ∃ v₁ v₂ rest, keys.toList = v₁ :: v₂ :: rest := by
    have hl : 2 ≤ keys.toList.length := by rw [Array.length_toList]; exact z3 _ _ _ (.k 1 c8 d5 (.k 1 e9 c8 (.k 1 I7 e9 .o))) I7 d5 tt (Nat.le_of_eq (Eq.symm hkl)) (Nat.le_of_eq hvl) (Nat.le_of_not_lt h2)
    match keys.toList, hl with
    | v₁ :: v₂ :: rest, _ => exact ⟨v₁, v₂, rest, rfl⟩
   have ek : keys = (v₁ :: v₂ :: rest).toArray := by rw [← e, Array.toArray_toList]
   rw [e] at hall
   rw [ek]
   exact keyKind_strs (strsAre_map _ hall)
  rw [hkind, hz]
  refine wpAny_bind (wpAny_pure ?_)
  refine wpAny_bind (wpAny_mono (aq4 (s := s) (κ := oneType') (lo := C8) (J := KJ F) ak9 (fun x q q' h1 h2 => bn2 h1.2 h2.2)
   (fun x y q q' h1 h2 => bA0 h1 h2) J (by simp; exact I0 _ _ _ _ (.k 1 c8 d5 (.k 1 e9 c8 (.k 1 I7 e9 (.k 1 d5 o7 .o)))) I7 o7 tt (Nat.le_of_eq (Eq.symm hkl)) (Nat.le_of_eq hvl) (Nat.le_of_not_lt h2) (Z4 (z3 _ _ _ (.k 1 c8 d5 (.k 1 d5 e9 .o)) c8 e9 tt (Nat.le_of_eq hkl) (Nat.le_of_eq (Eq.symm hvl)))))
   (Q := fun _ st' => failedOf st' = none ∧ ∃ L' rs', arrOf st' = L'.toArray ∧ Paired (KJ F) L' rs' ∧ rs'.Perm rs ∧ rs'.Pairwise (fun a b => C8 b a = false)) fun st' L' rs' k1 k2 k3 k4 k5 => ⟨k1, L', rs', k2, k3, k4, k5⟩) ?_ fun _ _ e => e)
  rintro ⟨⟨⟩, st'⟩ s' ⟨rfl, hf, L', rs', k2, k3, k4, k5⟩
  try dsimp only
  have hll : L'.length = rs'.length := by have := (av0 k3).length; rwa [List.length_map, List.length_map] at this
  exact bw3 k (by exact n8 _ _ (.k 1 c8 d5 (.k 1 d5 (.num 10000) .o)) c8 (.num 10000) tt (Nat.le_of_eq hkl) hl) k2 hf (by rw [hll, k4.length_eq]; exact hl) fun s' c S' h1 => h s' c _ rs' S' h1 (av0 k3) k4 k5
theorem bH5 {a kS q : Addr} {vs : List Value} {rs : List J6} {e1 : Nat} {P : Fin → Shared → Prop} (R : Rm G A F₀ s₀) (k : KAt G.x F₀ s₀ F s a kS #[] e1) (rv : RelL F (rs.map l9) vs) (hl : rs.length ≤ 10000) (hc : ∀ r ∈ rs, ∀ A F s E vs, Rm G A F s → RelL F [l9 r] vs → wpAny G.M A (call (.ref q) vs) (PV G.x F s (.str r.1)) E s)
  (h : ∀ (s' : Shared) (F' : Fz) (c : Nat) (out : List Value) (rs' : List J6), St G.x N0 F₀ s₀ F' s' → F' a = none → s'.heap.get? a = some (seqObj "list" (List.toArray out) c) → RelL F' (rs'.map l9) out → rs'.Perm rs → rs'.Pairwise (fun a b => C8 b a = false) → P (.done (.ret .none)) s') : wpAny G.M A (ksk_rest a (.ref q) false vs.toArray e1 (.ref kS)) P E s := by
 have hvl : vs.length = rs.length := by have := rv.length; simpa using this
 unfold ksk_rest
 refine wpAny_bind (wpAny_rule ?_)
 first
  | rw [List.forIn_toArray]
  | (rw [← Array.forIn_toList]; simp only [List.toList_toArray])
  | rw [← Array.forIn_toList]
 refine wpAny_bind (ksk_fold (fun i s' => ∃ F' kA, KAt G.x F₀ s₀ F' s' a kS kA e1 ∧ RelL F' (rs.map l9) vs ∧ RelL F' ((rs.take i).map fun r => .str r.1) kA.toList) vs 0 s ⟨F, #[], k, rv, rfl⟩ ?step ?done)
 case step =>
  rintro j x s' hx ⟨F', kA, ⟨S', ⟨e, hk'⟩, ha', k0, a0, fk, fa, hne⟩, rv', rk'⟩
  simp only [Nat.zero_add] at rk' ⊢
  have hj : j < vs.length := (List.getElem?_eq_some_iff.mp hx).1
  obtain ⟨r, hr⟩ : ∃ r, rs[j]? = some r := ⟨_, List.getElem?_eq_getElem (by exact z3 _ _ _ (.k 1 i9 d5 (.k 1 d5 e9 .o)) i9 e9 tt hj (Nat.le_of_eq hvl))⟩
  have hrm := List.mem_of_getElem? hr
  have hkz : kA.size ≤ 10000 := by
   have := rk'.length
   rw [Array.length_toList, List.length_map, List.length_take] at this; exact bS4 this hl
  obtain ⟨x', hx', rx⟩ := rv'.get (i := j) (x := l9 r) (by rw [List.getElem?_map, hr]; rfl)
  rw [hx] at hx'; cases hx'
  refine wpAny_bind (wpAny_attempt (wpAny_mono (hc r hrm A F' s' (fun _ _ => False) [x] (R.step S') ⟨x, [], rfl, rx, rfl⟩) (fun v s'' he => ?_) fun _ _ hF => hF.elim))
  obtain ⟨F'', S'', ry⟩ := he
  try dsimp only
  have hk2 := S''.keep _ _ hk' id (fun _ _ e => nomatch e)
  have ha2 := S''.keep _ _ ha' id (fun _ _ e => nomatch e)
  refine wpAny_bind (listUpdate_at hk2 rfl ?_ (by rw [sizeLine_eq]; exact aw3 hkz) (Nat.le_trans (Nat.le_of_eq (Array.size_push ..)) (by rw [sizeLine_eq]; exact o5 _ (.k 1 c8 (.num 10000) .o) i9 (.add (.num 16777216) k9) tt hkz)))
  have fk' := S''.out fk hk'
  have S3 := (S'.trans S'').priv (t := s''.toks) fk' k0 (Heap.SameBut.update s''.heap kS (Obj.mapSeq (·.push v))).extBut
  obtain ⟨c2, hc2⟩ : ∃ c2, (s''.heap.update kS (Obj.mapSeq (·.push v))).get? kS = some (seqObj "list" (kA.push v) c2) := ⟨_, get?_update_seq hk2 (·.push v)⟩
  have et : rs.take (j + 1) = rs.take j ++ [r] := by
   obtain ⟨hi, e⟩ := List.getElem?_eq_some_iff.mp hr
   rw [List.take_succ_eq_append_getElem hi, e]
  refine wpAny_pure ⟨rfl, F'', kA.push v, ⟨S3, ⟨c2, hc2⟩, ((Heap.SameBut.update s''.heap kS (Obj.mapSeq (·.push v))).2 a hne).trans ha2, k0, a0, fk', S''.out fa ha', hne⟩, rv'.mono S''.up, ?_⟩
  rw [et, List.map_append, Array.toList_push]
  exact (rk'.mono S''.up).append (.one ry)
 case done =>
  rintro s' ⟨F', kA, k', rv', rk'⟩
  have et : rs.take (0 + vs.length) = rs := List.take_of_length_le (by exact n8 _ _ (.k 1 c8 d5 .o) c8 (.add w9 d5) tt (Nat.le_of_eq (Eq.symm hvl)))
  rw [et] at rk'
  try dsimp only
  obtain ⟨e, hk'⟩ := k'.k
  refine wpAny_bind (listItems_at hk' rfl ?_)
  exact bM6 k' rk' rv' hl fun s' c out rs' S h1 => h s' F' c out rs' S k'.fa h1
theorem bH4 {a q : Addr} {vs : List Value} {rs : List J6} {n : Nat} {P : Fin → Shared → Prop} (R : Rm G A F₀ s₀) (S : St G.x N0 F₀ s₀ F s) (ha : s.heap.get? a = some (seqObj "list" vs.toArray n))
  (a0 : s₀.heap.get? a = none) (fa : F a = none) (rv : RelL F (rs.map l9) vs) (hl : rs.length ≤ 10000) (hc : ∀ r ∈ rs, ∀ A F s E vs, Rm G A F s → RelL F [l9 r] vs → wpAny G.M A (call (.ref q) vs) (PV G.x F s (.str r.1)) E s)
  (h : ∀ (s' : Shared) (F' : Fz) (c : Nat) (out : List Value) (rs' : List J6), St G.x N0 F₀ s₀ F' s' → F' a = none → s'.heap.get? a = some (seqObj "list" (List.toArray out) c) → RelL F' (rs'.map l9) out → rs'.Perm rs → rs'.Pairwise (fun a b => C8 b a = false) → P (.done (.ret .none)) s') : wpAny G.M A (ksk_tree a (.ref q) false) P E s := by
 have hvl : vs.length = rs.length := by have := rv.length; simpa using this
 unfold ksk_tree
 refine wpAny_bind (listItems_at ha rfl ?_)
 refine wpAny_bind (listUpdate_at ha rfl ?_ (by rw [List.size_toArray, sizeLine_eq]; exact aV1 hvl hl) (Nat.zero_le _))
 obtain ⟨e1, ha1⟩ : ∃ e1, (s.heap.update a (Obj.mapSeq fun _ => (#[] : Array Value))).get? a = some (seqObj "list" #[] e1) := ⟨_, get?_update_seq ha fun _ => #[]⟩
 have S1 := S.priv (t := s.toks) fa a0 (Heap.SameBut.update s.heap a (Obj.mapSeq fun _ => (#[] : Array Value))).extBut
 refine wpAny_bind (seqEpoch_at ha1 rfl ?_)
 refine wpAny_bind (wpAny_newTuple ?_ (by show vs.length ≤ _; rw [sizeLine_eq]; exact aV1 hvl hl))
 refine wpAny_bind (wpAny_newList ?_ (Nat.zero_le _))
 refine wpAny_holding ?_
 generalize s.heap.update a (Obj.mapSeq fun _ => (#[] : Array Value)) = h1 at *
 have S2 : St G.x N0 F₀ s₀ F { s with heap := h1.push (seqObj "tuple" vs.toArray 0) } := S1.trans (St.grow (t := s.toks) S1.sub fun b o e => Heap.get?_push_of_some _ e)
 have hk0 : (h1.push (seqObj "tuple" vs.toArray 0)).get? (h1.push (seqObj "tuple" vs.toArray 0)).objs.size = none := j9 _
 have ha2 : (h1.push (seqObj "tuple" vs.toArray 0)).get? a = some (seqObj "list" #[] e1) := Heap.get?_push_of_some _ ha1
 have hne : a ≠ (h1.push (seqObj "tuple" vs.toArray 0)).objs.size := fun e => by rw [← e, ha2] at hk0; cases hk0
 have S3 : St G.x N0 F₀ s₀ F { s with heap := (h1.push (seqObj "tuple" vs.toArray 0)).push (seqObj "list" #[] 0) } := S2.trans (St.grow (t := s.toks) S2.sub fun b o e => Heap.get?_push_of_some _ e)
 have fk : F (h1.push (seqObj "tuple" vs.toArray 0)).objs.size = none := by
  cases q : F (h1.push (seqObj "tuple" vs.toArray 0)).objs.size with
  | none => rfl
  | some o => exact nS (hk0.symm.trans (S2.sub _ _ q))
 exact bH5 (s := { s with heap := (h1.push (seqObj "tuple" vs.toArray 0)).push (seqObj "list" #[] 0) }) R ⟨S3, ⟨_, Heap.get?_push_size _ rfl⟩, Heap.get?_push_of_some _ ha2, S2.dead hk0, a0, fk, fa, hne⟩ rv hl hc h
theorem aG9 {l q : Addr} {vs : List Value} {rs : List J6} {z : V} (R : Rm G A.in1.in1 F s) (hv : s.heap.IsList l vs.toArray) (rv : RelL F (rs.map l9) vs) (hl : rs.length ≤ 10000) (hc : ∀ r ∈ rs, ∀ A F s E vs, Rm G A F s → RelL F [l9 r] vs → wpAny G.M A (call (.ref q) vs) (PV G.x F s (.str r.1)) E s)
  (h : ∀ rs' : List J6, rs'.Perm rs → rs'.Pairwise (fun a b => C8 b a = false) → z = .lst (rs'.map l9)) : wpAny G.M A (call (.builtin "sorted") [.ref l] [(Str.ofString "key", .ref q)]) (PV G.x F s z) E s := by
 have hvl : vs.length = rs.length := by have := rv.length; simpa using this
 refine call_function_entry_kw kind_sorted plain_sorted entry_sorted (ksk_s1 _ _) ?_
 unfold Builtin.«sorted»
 refine wpAny_bind (m := checkCount "sorted" 1 1 _) (wpAny_pure ?_)
 refine wpAny_bind (collect_list hv ?_ (by rw [sizeLine_eq]; exact aV1 hvl hl))
 refine wpAny_bind (wpAny_newList ?_ (by rw [sizeLine_eq]; exact aV1 hvl hl))
 have hsz : ((s.heap.push (seqObj "list" #[] 0)).update s.heap.objs.size (Obj.mapSeq (· ++ vs.toArray))).objs.size = s.heap.objs.size + 1 := by
  rw [Heap.size_update, size_push']
 have keep : ∀ b o, s.heap.get? b = some o → (((s.heap.push (seqObj "list" #[] 0)).update s.heap.objs.size (Obj.mapSeq (· ++ vs.toArray))).push (seqObj "list" vs.toArray 0)).get? b = some o := fun b o q => by
  have hlt : b < s.heap.objs.size := Heap.lt_size q
  rw [Heap.get?_push_ne _ _ _ (by rw [hsz]; exact Nat.ne_of_lt (Nat.lt_succ_of_lt hlt)), Heap.get?_update_ne _ _ _ _ (Nat.ne_of_lt hlt), Heap.get?_push_ne _ _ _ (Nat.ne_of_lt hlt)]
  exact q
 have hoL : (((s.heap.push (seqObj "list" #[] 0)).update s.heap.objs.size (Obj.mapSeq (· ++ vs.toArray))).push (seqObj "list" vs.toArray 0)).get? (s.heap.objs.size + 1) = some (seqObj "list" vs.toArray 0) := by
  rw [← hsz]; exact Heap.get?_push_size _ rfl
 have hn : s.heap.get? (s.heap.objs.size + 1) = none := Heap.get?_none_of_le (Nat.le_succ _)
 show wpAny _ _ _ _ _ { s with heap := ((s.heap.push (seqObj "list" #[] 0)).update s.heap.objs.size (Obj.mapSeq (· ++ vs.toArray))).push (seqObj "list" vs.toArray 0) }
 rw [hsz]
 refine wpAny_bind (wpAny_holding (wpAny_call_entry_kw slot_list_sort ⟨_, hoL, rfl⟩ entry_list_sort ?body (ksk_l1 _ _)))
 case body =>
  show wpAny G.M A.in1.in1 (Builtin.«list.sort» ⟨[.ref (s.heap.objs.size + 1)], [(Str.ofString "key", .ref q)]⟩) _ _ _
  rw [ksk_t1]
  refine bH4 (s := { s with heap := ((s.heap.push (seqObj "list" #[] 0)).update s.heap.objs.size (Obj.mapSeq (· ++ vs.toArray))).push (seqObj "list" vs.toArray 0) }) (s₀ := s) (F₀ := F) R (St.grow (t := s.toks) R.sub keep) hoL hn (R.out hn) rv hl hc fun s' F' c out rs' S' f1 h1 h2 h3 h4 => ⟨_, rfl, ?_⟩
  cases h rs' h3 h4
  exact wpAny_pure ⟨_, rfl, _, S'.freeze hn h1 f1, _, out, rfl, ⟨c, Fz.add_self⟩, h2.mono fun b o e => (if_neg (by rintro rfl; exact nS (f1.symm.trans e))).trans e⟩
theorem aJ3 {K : Sx} {ρ : List V} {σ : Ow} {e : PySem.Expr} {f : Str} {q hp kp p : Pos} {rs : List J6} {z : V} (is : ∃ o fd, G.mg f = some (.ref (G.fn f)) ∧ G.B.get? (G.fn f) = some o ∧ o.data = .func fd) (hc : ∀ r ∈ rs, Pure G.dn f [l9 r] (.str r.1)) (hd : 0 < G.d) (h1 : Ev G K ρ σ e (.lst (rs.map l9))) (hl : rs.length ≤ 10000)
  (h : ∀ rs' : List J6, rs'.Perm rs → rs'.Pairwise (fun a b => C8 b a = false) → z = .lst (rs'.map l9)) (hs : f0 e = true := by rfl) (hg : j8 K "sorted" = true := by decide +kernel) (hf : j8 K f = true := by decide +kernel) : Ev G K ρ σ (.Call (.Name "sorted" q) [e] [⟨some "key", .Name f hp, kp⟩] p) z := fun A env F s E k => by
 obtain ⟨o, fd, hm, ho, hfd⟩ := is
 refine wpAny_Call_Name_kw (n7 k (.inr (k.rm.go.blt 7 _ _ rfl)) hg ?_)
 have hst : backTo p (starEach [e] env) = [(false, eval e env)] := m6 p env (by rw [List.all_cons, hs]; rfl)
 refine callWith_kw ?_ hst (by rw [hst]; rfl) rfl rfl
 rw [hst]
 refine Calls.spliced_cons (h1.bind k fun v F₁ s₁ S₁ r₁ k₁ => Calls.spliced_nil ?_)
 refine kws_cons (n7 k₁ (.inl hm) hf (kws_nil ?_))
 show wpAny G.M A (call (.builtin "sorted") [v] [(Str.ofString "key", .ref (G.fn f))]) _ _ s₁
 obtain ⟨a, us, rfl, hu, hn, rl⟩ := J5 k₁.rm r₁
 refine E3 S₁ (aG9 (G := G.dn) ⟨⟨k.rm.go.g, k.rm.go.b, k.rm.go.nolimit, k.rm.go.blt⟩, k₁.rm.base, k₁.rm.sub, ?_, ?_, k₁.rm.handled, k₁.rm.frames⟩ hu rl hl (fun r hr => (hc r hr).run) h)
 ·have := k.rm.depth; show A.depth + (G.d - 1) ≤ _; exact I0 _ _ _ _ (.k 1 (.add c8 d5) e9 (.k 1 I9 d5 .o)) (.add c8 o7) e9 tt this (F1 (o5 _ (.k 1 (.add w9 k9) c8 .o) k9 c8 tt hd))
 ·have := k.rm.units; show A.units + 1 + 1 + 10 * (G.d - 1) + 100 ≤ _; exact Nat.le_of_not_lt fun u1 => (f'4 _ _ _ _ (.k 1 (.add (.add c8 (.mulL 10 d5)) (.num 100)) e9 (.k 10 I9 d5 (.k 1 D9 (.add (.add (.add i9 k9) (.mulL 10 o7)) (.num 100)) .o))) tt this (F1 (o5 _ (.k 1 (.add w9 k9) c8 .o) k9 c8 tt hd)) u1)
end
end Mine
namespace Mine
open PySem PyProof.Rows PySem.W
def Cov (F : Fz) (s : Shared) (B h : Heap) : Prop := (∀ a o, F a = some o → B.get? a = some o) ∧ ∀ b o, s.heap.get? b = some o → ∃ o', h.get? b = some o' ∧ (B.get? b = some o' ∨ ∃ es n, o'.data = .dict es n)
section
variable {X : Bool} {D : Addr → Prop} {F F₁ F' : Fz} {s s₁ s' : Shared} {B h : Heap}
theorem Cov.from (c : Cov F' s₁ B h) (S : St X D F s F₁ s₁) : Cov F' s B h := ⟨c.1, fun b o e => (S.live b o e).elim fun o' q => c.2 b o' q.1⟩
theorem aC2 (S : St false D F s F' s') (c : Cov F' s B s'.heap) (st : B.StaysIn h) (u : s'.heap.UpToSlots h) : St false D F s F' { s' with heap := h } ∧ Cov F' s B h := by
 have key : ∀ b o o', s.heap.get? b = some o → s'.heap.get? b = some o' → (h.get? b = some o' ∧ B.get? b = some o') ∨ ∃ sl, h.get? b = some { o' with slots := sl } ∧ ∃ es n, o'.data = .dict es n := fun b o o' e e' => by
  obtain ⟨o'', h1, h2⟩ := c.2 b o e
  cases e'.symm.trans h1
  rcases h2 with h2 | ⟨es, n, hd⟩
  ·exact .inl ⟨st b _ h2, h2⟩
  ·exact .inr ((u b _ e' fun vs q => nomatch hd.symm.trans q).imp fun sl q => ⟨q, es, n, hd⟩)
 refine ⟨⟨S.up, fun a o e => st a o (c.1 a o e), fun b o e d => ?_, fun b o e => ?_, S.new, by rw [S.rest]⟩, c.1, fun b o e => ?_⟩
 ·obtain ⟨o', h1, h2⟩ := S.keepO b o e d
  rcases key b o o' e h1 with q | ⟨sl, q, hd⟩
  ·exact ⟨o', q.1, h2⟩
  ·exact ⟨_, q, h2.trans (.inr ⟨hd, rfl, sl, rfl⟩)⟩
 ·obtain ⟨o', h1, h2⟩ := S.live b o e
  rcases key b o o' e h1 with q | ⟨sl, q, hd⟩
  ·exact ⟨o', q.1, h2⟩
  ·exact ⟨_, q, h2.trans fun _ _ e => ⟨_, _, e⟩⟩
 ·obtain ⟨o', h1, _⟩ := c.2 b o e
  rcases key b o o' e h1 with q | ⟨sl, q, es, n, hd⟩
  ·exact ⟨o', q.1, .inl q.2⟩
  ·exact ⟨_, q, .inr ⟨es, n, hd⟩⟩
end
def bL0 (B : Heap) (l : List Env) (e : Addr) (cls : Value) (L : Addr) (h : Heap) : Prop := B.StaysIn h ∧ B.get? e = none ∧ h.FunFrames B l ∧
 ((∃ oe vs a0, h.get? e = some oe ∧ oe.cls = cls ∧ oe.data = .fields vs ∧ vs[0]? = some a0 ∧ vs[1]? = some .none) ∨ ∃ a0 fl, h.TracedAtW B e cls a0 fl ∧ (fl = .none ∨ fl = rawInt L))
inductive PX (G : Gl) (K : Sx) (A : Around) (env : Env) (σ : Ow) (F : Fz) (s : Shared) (C : Addr) (v : Value) (s' : Shared) : Prop
 | mk (e : Addr) (ρ₁ : List V) (σ₁ : Ow) (F₁ : Fz) (s₁ : Shared) (F' : Fz) (B : Heap) (L : Addr) (outer : List Env) (hv : v = .ref e) (hfr : A.frames = some (env :: outer)) (hf : env.frame = some L) (k : FOk G K A env ρ₁ σ₁ F₁ s₁) (l : Lk G.x env σ F s σ₁ F₁ s₁) (S : St false N0 F₁ s₁ F' s') (c : Cov F' s₁ B s'.heap) (x : bL0 B (env :: outer) e (.ref C) L s'.heap)
inductive PE (A : Around) (F : Fz) (s : Shared) (C : Addr) (v : Value) (s' : Shared) : Prop
 | mk (e : Addr) (F' : Fz) (B : Heap) (a0 : Value) (l : List Env) (hv : v = .ref e) (hfr : A.frames = some l) (S : St false N0 F s F' s') (c : Cov F' s B s'.heap) (x : Heap.FlyingW B l e (.ref C) a0 s'.heap)
structure Hld (G : Gl) (K : Sx) (A : Around) (env : Env) (σ : Ow) (F : Fz) (s : Shared) (e : Addr) (ρ₁ : List V) (σ₁ : Ow) (F₁ : Fz) (s₁ : Shared) (F' : Fz) (B : Heap) (outer : List Env) (s' : Shared) : Prop where
 hfr : A.frames = some (env :: outer)
 k : FOk G K A env ρ₁ σ₁ F₁ s₁
 l : Lk G.x env σ F s σ₁ F₁ s₁
 S : St false N0 F₁ s₁ F' s'
 c : Cov F' s₁ B s'.heap
section
variable {M : Model} {G : Gl} {K : Sx} {A : Around} {env : Env} {σ : Ow} {F : Fz} {s s' : Shared} {C : Addr} {v : Value} {E : Value → Shared → Prop} {Q : Unit → Shared → Prop}
theorem Hld.turn {e : Addr} {ρ₁ : List V} {σ₁ : Ow} {F₁ : Fz} {s₁ : Shared} {F' : Fz} {B h : Heap} {outer : List Env} (H : Hld G K A env σ F s e ρ₁ σ₁ F₁ s₁ F' B outer s') (st : B.StaysIn h) (u : s'.heap.UpToSlots h) : Hld G K A env σ F s e ρ₁ σ₁ F₁ s₁ F' B outer { s' with heap := h } :=
 ⟨H.hfr, H.k, H.l, (aC2 H.S H.c st u).1, (aC2 H.S H.c st u).2⟩
theorem at9 (h : PX G K A env σ F s C v s') (k : ∀ e ρ₁ σ₁ F₁ s₁ F' B L outer a0 h', v = .ref e → env.frame = some L → Hld G K A env σ F s e ρ₁ σ₁ F₁ s₁ F' B outer { s' with heap := h' } → Heap.HeldW B (env :: outer) e (.ref C) a0 L h' → Q () { s' with heap := h' }) :
  wpAny M A (noteFrame v env) Q E s' := by
 obtain ⟨e, ρ₁, σ₁, F₁, s₁, F', B, L, outer, rfl, hfr, hf, k₁, l, S, c, st, hen, ff, x⟩ := h
 have H : Hld G K A env σ F s e ρ₁ σ₁ F₁ s₁ F' B outer s' := ⟨hfr, k₁, l, S, c⟩
 rcases x with ⟨oe, vs, a0, he, hc, hd, h0, h1⟩ | ⟨a0, fl, ht, rfl | rfl⟩
 ·unfold noteFrame
  simp only [hf]
  refine wpAny_bind (wpAny_field he hd h1 ?_)
  rw [if_neg (by decide)]
  refine wpAny_entryW hfr ff hf he st hen hd (Array.getElem?_eq_some_iff.mp h1).1 h0 fun h' ⟨x1, x2, x3, x4⟩ => ?_
  exact k e _ _ _ _ _ B L outer a0 h' rfl hf (H.turn x1 x4) ⟨x1, hen, x2, hc ▸ x3⟩
 ·refine wpAny_looks_onW hfr hf ⟨st, hen, ff, ht⟩ fun h' hh u => ?_
  exact k e _ _ _ _ _ B L outer a0 h' rfl hf (H.turn hh.1 u) hh
 ·exact wpAny_noteFrame_againW hf ht (k e _ _ _ _ _ B L outer a0 s'.heap rfl hf H ⟨st, hen, ff, ht⟩)
theorem az9 (h : PX G K A env σ F s C v s') (k : ∀ e ρ₁ σ₁ F₁ s₁ F' B outer a0 h', v = .ref e → Hld G K A env σ F s e ρ₁ σ₁ F₁ s₁ F' B outer { s' with heap := h' } → Heap.FlyingW B outer e (.ref C) a0 h' → Q () { s' with heap := h' }) :
  wpAny M A (leaving env v) Q E s' := by
 unfold leaving
 refine wpAny_bind (at9 h fun e ρ₁ σ₁ F₁ s₁ F' B L outer a0 h₁ hv hf H hh => ?_)
 subst hv
 refine wpAny_landsW hh fun h₂ hfl u => ?_
 have H₂ := H.turn hfl.1 u
 obtain ⟨k1, k2, ⟨_, _, k3⟩, k4⟩ := hfl
 exact k e _ _ _ _ _ B outer a0 h₂ rfl H₂ ⟨k1, k2, k3, k4⟩
theorem bn5 (h : PX G K A env σ F s C v s') : notedBy M A env (cameBackBy M A env (PX G K A env σ F s C)) v s' := by
 unfold notedBy
 refine at9 h fun e ρ₁ σ₁ F₁ s₁ F' B L outer a0 h₁ hv hf H hh => ?_
 subst hv
 unfold cameBackBy
 obtain ⟨x1, x2, x3, oe, vs, T, oT, ts, t1, t2, t3, t4, t5, t6, t7, t8, t9⟩ := hh
 refine wpAny_bind (wpAny_field t1 t3 t4 ?_)
 rw [if_neg (show ¬ ((Value.ref T == Value.none) = true) from by simp), hf]
 unfold setFlight
 refine wpAny_bind (wpAny_field t1 t3 t4 ?_)
 rw [if_pos (show (Value.ref T != Value.none) = true from by simp)]
 have hlt : 3 < ts.size := (Array.getElem?_eq_some_iff.mp t9).1
 refine wpAny_setField t7 t8 hlt ?_
 have other : ∀ b, b ≠ T → (h₁.update T (Obj.mapFields (·.setIfInBounds 3 ((some L : Option Addr).elim Value.none fun f => rawInt f)))).get? b = h₁.get? b := fun b hb => Heap.get?_update_other _ _ (Ne.symm hb)
 have noRec : ∀ b o, h₁.get? b = some o → (∀ vs, o.data ≠ .fields vs) → b ≠ T := fun b o hb hn q => by
  rw [q, t7] at hb; cases hb; exact hn ts t8
 have st : B.StaysIn (h₁.update T (Obj.mapFields (·.setIfInBounds 3 ((some L : Option Addr).elim Value.none fun f => rawInt f)))) := fun b o hb => (other b fun q => by rw [q, t5] at hb; cases hb).trans (x1 b o hb)
 have H₂ := H.turn st fun b o hb hn => ⟨o.slots, (other b (noRec b o hb hn)).trans hb⟩
 exact ⟨e, ρ₁, σ₁, F₁, s₁, F', B, L, outer, rfl, H.hfr, hf, H.k, H.l, H₂.S, H₂.c, st, x2, x3.of_keeps fun b o hb hn => ⟨o, (other b (noRec b o hb hn)).trans hb, rfl⟩, .inr ⟨a0, rawInt L, ⟨oe, vs, T, _, _, (other e (Ne.symm t6)).trans t1, t2, t3, t4, t5, t6, Heap.get?_update_self _ t7 (Obj.isFreed_of_fields (Obj.data_mapFields t8 _)), Obj.data_mapFields t8 _, by simp [hlt]⟩, .inr rfl⟩⟩
end
def WR (G : Gl) (K : Sx) (ss : List Stmt) (ρ : List V) (σ : Ow) (C : Addr) : Prop :=
 ∀ A env F s, FOk G K A env ρ σ F s → wpAny G.M A (execs ss env) (fun _ _ => False) (PX G K A env σ F s C) s
structure Rz (G : Gl) (f : Str) (xs : List V) (C : Addr) : Prop where
 is : ∃ o fd, G.mg f = some (.ref (G.fn f)) ∧ G.B.get? (G.fn f) = some o ∧ o.data = .func fd
 run : ∀ A F s vs, Rm G A F s → RelL F xs vs → wpAny G.M A (call (.ref (G.fn f)) vs) (fun _ _ => False) (PE A F s C) s
abbrev XC (G : Gl) (x : Str) (C : Addr) : Prop := OwnClsQ x C vbm "ValueError.__new__" G.mg G.B
theorem ao6 {M : Model} {A : Around} {st : Stmt} {env : Env} {Q : Flow → Shared → Prop} {E : Value → Shared → Prop} {s : Shared} (h : wpAny M A (execs [st] env) Q E s) : wpAny M A (exec st env) Q E s := fun Γ p hΓ => by
 have := h Γ p hΓ
 rw [execs_cons, Sem.wp_bind'] at this
 refine Sem.wp_mono M Γ _ (fun f p' s' h' => ?_) (fun _ _ _ h' => h') _ _ this
 cases f <;> exact h'
section
variable {G : Gl} {K : Sx} {A : Around} {env : Env} {ρ : List V} {σ σ₁ : Ow} {F F₁ : Fz} {s s₁ : Shared} {ss : List Stmt} {st : Stmt} {C : Addr} {p q q' pc : Pos} {e c : PySem.Expr} {es : List PySem.Expr} {x : V} {xs : List V} {b : Bool} {f : Str}
theorem PX.from {v : Value} {s' : Shared} (L : Lk G.x env σ F s σ₁ F₁ s₁) (h : PX G K A env σ₁ F₁ s₁ C v s') : PX G K A env σ F s C v s' :=
 h.casesOn fun e ρ₂ σ₂ F₂ s₂ F' B Lc outer hv hfr hf k l S c x => ⟨e, ρ₂, σ₂, F₂, s₂, F', B, Lc, outer, hv, hfr, hf, k, L.trans l, S, c, x⟩
theorem ag8 {t : Sem Flow} {Q : Flow → Shared → Prop} {M : Model} (L : Lk G.x env σ F s σ₁ F₁ s₁) (h : wpAny M A t Q (PX G K A env σ₁ F₁ s₁ C) s₁) : wpAny M A t Q (PX G K A env σ F s C) s₁ := wpAny_mono h (fun _ _ q => q) fun _ _ q => q.from L
theorem ai3 (h : WS G K [st] ρ σ fun fl ρ' σ' => fl = .next ∧ WR G K ss ρ' σ' C) : WR G K (st :: ss) ρ σ C := fun A env F s k =>
 wpAny_execs_cons (wpAny_mono (ao6 (h A env F s _ k)) (fun f s₁ h' => h'.casesOn fun fl ρ' σ' F' hf k' L q' => by
  cases q'.1
  cases f <;> first | exact hf.elim | skip
  exact ag8 L (q'.2 A env F' s₁ k')) fun _ _ e => e)
theorem K0 (h : ∀ A env F s, FOk G K A env ρ σ F s → wpAny G.M A (exec st env) (fun _ _ => False) (PX G K A env σ F s C) s) : WR G K (st :: ss) ρ σ C := fun A env F s k =>
 wpAny_execs_cons (wpAny_mono (h A env F s k) (fun _ _ q => q.elim) fun _ _ e => e)
theorem Y4 {a b' : List Stmt} (h1 : Tr G K ρ σ c b) (ht : b = true → WR G K a ρ σ C) (hf : b = false → WR G K b' ρ σ C) : WR G K (.If c a b' p :: ss) ρ σ C :=
 K0 fun A env F s k => wpAny_If (h1.bind k.e fun F₁ s₁ S k₁ => by
  cases b
  ·exact ag8 S.lk (hf rfl A env F₁ s₁ (k.step S))
  ·exact ag8 S.lk (ht rfl A env F₁ s₁ (k.step S)))
theorem ak0 {v : Value} {s' : Shared} (k : FOk G K A env ρ σ F s) (h : PE A F s C v s') : PX G K A env σ F s C v s' :=
 h.casesOn fun e F' B a0 l hv hfr S c x => by
  obtain ⟨outer, hA⟩ := k.top
  cases hA.symm.trans hfr
  obtain ⟨l, hl, fr⟩ := k.e.rm.frames
  cases hA.symm.trans hl
  obtain ⟨_, L, hL, _⟩ := fr env (List.mem_cons_self ..)
  exact ⟨e, ρ, σ, F, s, F', B, L, outer, hv, hA, hL, k, (St.refl k.e.rm.sub).lk, S, c, x.1, x.2.1, x.2.2.1, .inr ⟨a0, .none, x.2.2.2, .inl rfl⟩⟩
theorem at3 {Q : Value → Shared → Prop} (h : Rz G f xs C) (ha : EvL G K ρ σ es xs) (k : FOk G K A env ρ σ F s) (hs : es.all f0 = true) (hg : j8 K f = true) : wpAny G.M A (eval (.Call (.Name f q') es [] pc) env) Q (PX G K A env σ F s C) s := by
 obtain ⟨o, fd, hf, ho, hfd⟩ := h.is
 refine wpAny_Call_NameR (n7 k.e (.inl hf) hg ?_)
 rw [m6 pc env hs]
 refine Calls.callWith_function (l8 (o8 es env) (ha.bind k.e fun vs F₁ s₁ S₁ r₁ k₁ => ⟨⟨k₁.rm.in _ _ ho, hfd⟩, wpAny_mono (h.run A F₁ s₁ vs k₁.rm r₁) (fun _ _ q => q.elim) fun v s' q => ?_⟩))
 exact (ak0 (k.step S₁) q).from S₁.lk
theorem I8 (h : Rz G f xs C) (ha : EvL G K ρ σ es xs) (hs : es.all f0 = true := by rfl) (hg : j8 K f = true := by decide +kernel) : WR G K (.Expr (.Call (.Name f q') es [] pc) p :: ss) ρ σ C :=
 K0 fun A env F s k => wpAny_Expr_any (at3 h ha k hs hg) (by unfold interactive; rw [k.e.kind]; rfl) rfl
theorem bx6 {n : Str} (h : Rz G f xs C) (ha : EvL G K ρ σ es xs) (hs : es.all f0 = true := by rfl) (hg : j8 K f = true := by decide +kernel) : WR G K (.Assign [.Name n q] (.Call (.Name f q') es [] pc) p :: ss) ρ σ C :=
 K0 fun A env F s k => wpAny_Assign_Name (at3 h ha k hs hg) rfl
theorem aH9 {b : Addr} {l : List Env} (h : b ∈ l.filterMap (·.frame)) : ∃ env ∈ l, env.frame = some b := List.mem_filterMap.mp h
theorem aI9 {B h : Heap} {l : List Env} (fr : FrOk F h l) (hB : ∀ L, F L = none → (∃ env ∈ l, env.frame = some L) → B.get? L = none) : h.FunFrames B l := by
 induction l with
 | nil => trivial
 | cons env r ih =>
  obtain ⟨hk, L, hf, hF, o, es, n, ho, hd⟩ := fr env (List.mem_cons_self ..)
  exact ⟨hk, ⟨L, o, hf, hB L hF ⟨env, List.mem_cons_self .., hf⟩, ho, fun vs q => nomatch hd.symm.trans q⟩, ih (fun e m => fr e (List.mem_cons_of_mem _ m)) fun L hF q => hB L hF (q.imp fun e t => ⟨List.mem_cons_of_mem _ t.1, t.2⟩)⟩
structure Xa where
 bm : List Value
 N : Addr
 nm : Str
 qn : Str
 bs : List Value
 hdct : Bool
 sn : List Str
 sub : List Value
 ab : Bool
 col : Option Bool
 dd : Option Addr
 k0 : Option Value
 k1 : Option Value
 k2 : Option Value
 k3 : Option Value
 k5 : Option Value
 mN : Str → Option Value
inductive XaE (C : Addr) (bmB : List Value) (newId : String) (h : Heap) : Prop
 | mk (a : Xa) (hC : h.get? C = some (excClassObj a.nm a.qn C a.N a.bs a.bm a.hdct a.sn a.sub a.ab a.col a.dd a.k0 a.k1 a.k2 a.k3 a.k5 newId)) (hN : h.Ns a.N a.mN) (hq : ∀ n ∈ quietNames, a.mN n = none) (T : OwnTailQ h bmB a.bm)
theorem ax8 {x : Str} {C : Addr} {bmB : List Value} {newId : String} {mg : Str → Option Value} {h : Heap} (X : OwnClsQ x C bmB newId mg h) : XaE C bmB newId h :=
 X.obj.elim fun bm h => h.elim fun N h => h.elim fun nm h => h.elim fun q h => h.elim fun bs h => h.elim fun hdct h => h.elim fun sn h => h.elim fun sub h => h.elim fun ab h => h.elim fun col h => h.elim fun dd h => h.elim fun k0 h => h.elim fun k1 h => h.elim fun k2 h => h.elim fun k3 h => h.elim fun k5 h => h.elim fun mN h => ⟨⟨bm, N, nm, q, bs, hdct, sn, sub, ab, col, dd, k0, k1, k2, k3, k5, mN⟩, h.1, h.2.1, h.2.2.1, h.2.2.2⟩
inductive PaE (h : Heap) (C N : Addr) : Prop
 | mk (a : Xa) (hC : h.get? C = some (excClassObj a.nm a.qn C N a.bs [.type "object"] true a.sn a.sub false a.col a.dd a.k0 a.k1 a.k2 a.k3 a.k5 "object.__new__"))
theorem aA6 {h : Heap} {C N : Addr} {mN : Str → Option Value} (X : ClsAt h C N mN) : PaE h C N :=
 X.obj.elim fun nm h => h.elim fun q h => h.elim fun bs h => h.elim fun sn h => h.elim fun sub h => h.elim fun col h => h.elim fun dd h => h.elim fun k0 h => h.elim fun k1 h => h.elim fun k2 h => h.elim fun k3 h => h.elim fun k5 h => ⟨⟨[], N, nm, q, bs, true, sn, sub, true, col, dd, k0, k1, k2, k3, k5, mN⟩, h⟩
theorem J4 {n : Str} {a : Str} {kk : Nat} {pa : Pos} (X : XC G n C) (hg : j8 K n = true := by decide +kernel) : WR G K (.Raise (some (.Call (.Name n q) [.Constant (.str a) kk pa] [] pc)) none p :: ss) ρ σ C :=
 K0 fun A env F s k => by
  obtain ⟨xq1, hC, hN, hni, T⟩ := ax8 X
  replace hni := hni _ (.head _)
  replace T := OwnTailQ.tail T
  refine wpAny_Raise_call_subU (C := C) (nm := xq1.nm) (q := xq1.qn) (N := xq1.N) (bs := xq1.bs) (bm := xq1.bm) (hdct := xq1.hdct) (sn := xq1.sn) (sub := xq1.sub) (ab := xq1.ab) (col := xq1.col) (dd := xq1.dd) (k0 := xq1.k0) (k1 := xq1.k1) (k2 := xq1.k2) (k3 := xq1.k3) (k5 := xq1.k5)
   (Fn := PySem.F.excBase_ValueError) (hBn := by decide +kernel) (F := PySem.F.excBase_ValueError) (mN := xq1.mN) (T.hasType (by decide +kernel)) k.e.rm.handled (by rw [m6 pc env rfl]; rfl) hni (n7 k.e (.inl X.own.bound) hg ⟨rfl, ?_⟩)
  rw [m6 pc env rfl]
  refine Calls.evalArgs_plain (Calls.spliced_cons (am3.bind k.e fun v F₁ s₁ S₁ r₁ k₁ => Calls.spliced_nil ?_))
  refine ⟨rfl, show 1 ≤ sizeLine by decide, k₁.rm.in _ _ hC, hN.keeps k₁.rm.in, T.keeps k₁.rm.in, fun h' e hm => ?_⟩
  obtain ⟨outer, hA⟩ := k.top
  obtain ⟨l, hl, fr⟩ := k₁.rm.frames
  cases hA.symm.trans hl
  obtain ⟨_, L, hL, _⟩ := fr env (List.mem_cons_self ..)
  obtain ⟨t, he, _, _⟩ := hm.there
  let B := hideAll s₁.heap ((env :: outer).filterMap (·.frame))
  have gB : ∀ b o, s₁.heap.get? b = some o → (∃ env' ∈ env :: outer, env'.frame = some b) ∨ B.get? b = some o := fun b o e => (Classical.em (b ∈ (env :: outer).filterMap (·.frame))).imp aH9 fun m => hideAll_get _ e m
  have st : B.StaysIn h' := fun b o e => hm.keeps b o (of_hideAll _ e)
  have kp : St false N0 F₁ s₁ F₁ { s₁ with heap := h' } := .grow (t := s₁.toks) k₁.rm.sub hm.keeps
  refine ⟨e, ρ, σ, F₁, s₁, F₁, B, L, outer, rfl, hA, hL, k.step S₁, S₁.lk, kp, ⟨fun a o ea => ?_, fun b o eb => ?_⟩, st, ?_, ?_, .inl ⟨_, _, .ref t, he, rfl, rfl, rfl, rfl⟩⟩
  ·refine (gB a o (k₁.rm.sub a o ea)).elim (fun q => ?_) id
   obtain ⟨env', m, hf⟩ := q
   obtain ⟨_, L', hf', hF, _⟩ := fr env' m
   cases hf.symm.trans hf'
   exact nS (hF.symm.trans ea)
  ·refine ⟨o, hm.keeps _ _ eb, (gB b o eb).elim (fun q => .inr ?_) .inl⟩
   obtain ⟨env', m, hf⟩ := q
   obtain ⟨_, L', hf', _, o', es, n, ho, hd⟩ := fr env' m
   cases hf.symm.trans hf'
   cases eb.symm.trans ho
   exact ⟨es, n, hd⟩
  ·cases hq : B.get? e with
   | none => rfl
   | some o => exact nS (hm.new.symm.trans (of_hideAll _ hq))
  ·exact aI9 (fun env' m => (fr env' m).imp id fun t => t.imp fun _ t => ⟨t.1, t.2.1, t.2.2.imp fun _ t => t.imp fun _ t => t.imp fun _ t => ⟨hm.keeps _ _ t.1, t.2⟩⟩) fun L _ q => hideAll_none _ (List.mem_filterMap.mpr (q.imp fun _ t => t))
theorem by7 {np : Nat} {sts : List Stmt} {fa : Addr} (FA : FnO G.B fa K np sts) (hlen : xs.length = np) (hd : 0 < G.d) (h : WR G.dn K sts (xs ++ List.replicate (K.ns.length - np) .unb) σ0 C) : ∀ A F s vs, Rm G A F s → RelL F xs vs → wpAny G.M A (call (.ref fa) vs) (fun _ _ => False) (PE A F s C) s := fun A F s vs k r =>
 wpAny_call (R0 FA hlen hd k r (σ := σ0) (fun _ _ q => nomatch q) fun env s₁ k₁ S₁ hown _ => by
  obtain ⟨l, hl, _⟩ := k.frames
  refine wpAny_mono (h _ _ _ _ k₁) (fun _ _ q => q.elim) fun v s' q => az9 q fun e ρ₂ σ₂ F₂ s₂ F' B outer a0 h' hv H x => ?_
  cases (Around.frames_deeper hl).symm.trans H.hfr
  exact ⟨e, F', B, a0, l, hv, hl, S₁.no.then (H.l.no.trans H.S.lk).S fun b o e q => q.elim (fun q => nomatch e.symm.trans (hown b q)) fun q => q.elim fun _ q => (nomatch q.1), (H.c.from H.l.S).from S₁, x⟩)
theorem az3 {np : Nat} {sts : List Stmt} (FA : FnAt G.B G.mg f K np sts) (hlen : xs.length = np) (hd : 0 < G.d) (h : WR G.dn K sts (xs ++ List.replicate (K.ns.length - np) .unb) σ0 C) : Rz G f xs C :=
 ⟨FA.obj.imp fun _ q => q.imp fun _ q => ⟨q.1, q.2.1, q.2.2.1⟩, by7 FA.o hlen hd h⟩
end
def IX (G : Gl) (C : Addr) (c : Value) (b : Bool) : Prop := ∀ A s E (Q : Value → Shared → Prop) e oe, (∀ a o, G.B.get? a = some o → s.heap.get? a = some o) → s.heap.get? e = some oe → oe.cls = .ref C → Q (.bool b) s → wpAny G.M A (call (.builtin "isinstance") [.ref e, c]) Q E s
def O7 (mg : Str → Option Value) (h : Heap) (x t : Str) (b : Bool := true) : Prop := ∃ C T o cd, mg x = some (.ref C) ∧ mg t = some (.ref T) ∧ h.get? C = some o ∧ o.data = .cls cd ∧ cd.mro.contains (.ref T) = b
section
variable {G : Gl} {x t : Str} {C T : Addr}
theorem bA1 (X : XC G x C) : IX G C (.type "ValueError") true := fun A s E Q e oe hB he hcls hq => by
 obtain ⟨xq2, hC, hN, hni, Tl⟩ := ax8 X
 replace hni := hni _ (.head _)
 replace Tl := OwnTailQ.tail Tl
 have hC' := hB _ _ hC
 have hin : (Value.ref C :: xq2.bm).contains (.type "ValueError") = true := by rw [List.contains_cons, Tl.hasType (show vbm.contains (.type "ValueError") = true by decide +kernel), Bool.or_true]
 refine call_isinstance_of ?_ (by intro e; cases e)
 unfold Builtin.«isinstance.nested»
 obtain ⟨hh, g, d, tk, os⟩ := s
 repeat (first | (with_reducible refine wpAny_loadPart_at he ?_; rw [hcls]) | (with_reducible refine wpAny_isSubtype_exc hC' ?_; rw [hin]) | wp_step)
 exact hq
theorem bA2 (X : XC G x C) (XT : XC G t T) (hm : O7 G.mg G.B x t) : IX G C (.ref T) true := fun A s E Q e oe hB he hcls hq => by
 obtain ⟨xq3, hC, hN, hni, Tl⟩ := ax8 X
 replace hni := hni _ (.head _)
 replace Tl := OwnTailQ.tail Tl
 obtain ⟨xq4, hT, _, _, _⟩ := ax8 XT
 have hC' := hB _ _ hC
 have hT' := hB _ _ hT
 have hin : (Value.ref C :: xq3.bm).contains (.ref T) = true := by
  obtain ⟨C₁, T₁, o, cd, h1, h2, h3, h4, h5⟩ := hm
  cases X.own.bound.symm.trans h1
  cases XT.own.bound.symm.trans h2
  cases hC.symm.trans h3
  cases h4
  exact h5
 refine call_isinstance_of ?_ (by intro e; cases e)
 unfold Builtin.«isinstance.nested»
 obtain ⟨hh, g, d, tk, os⟩ := s
 by_cases hCT : C = T
 ·subst hCT
  repeat (first | (with_reducible refine wpAny_loadPart_at he ?_; rw [hcls]) | (with_reducible refine wpAny_isSubtype_exc hC' ?_; rw [hin]) | with_reducible refine wpAny_loadPart_at hT' ?_ | wp_step)
  exact hq
 ·have hne : (Value.ref C == Value.ref T) = false := by simp [hCT]
  repeat (first | (with_reducible refine wpAny_loadPart_at he ?_; rw [hcls]) | (with_reducible refine wpAny_isSubtype_exc hC' ?_; rw [hin]) | with_reducible refine wpAny_loadPart_at hT' ?_ | rw [hne] | wp_step)
  exact hq
end
structure SG (G : Gl) (K : Sx) (env : Env) (F : Fz) (s : Shared) : Prop where
 go : G.Ok
 base : ∀ a o, G.B.get? a = some o → F a = some o
 sub : ∀ a o, F a = some o → s.heap.get? a = some o
 sc : env.scope = K.sc
 kind : env.scope.kind = .function
 globals : env.globals = mainGlobals
 builtins : env.builtins = builtinsNs
structure SOk (G : Gl) (K : Sx) (env : Env) (n : Str) (e C : Addr) (F : Fz) (s : Shared) : Prop where
 g : SG G K env F s
 loc : ∃ m, s.heap.Ns env.locals m ∧ m n = some (.ref e)
 exc : ∃ oe vs, s.heap.get? e = some oe ∧ oe.cls = .ref C ∧ oe.data = .fields vs
noncomputable def U2 (K : Sx) (n : Str) : Bool := K.sc.names.lookup n == some .local && !(n == ("__debug__" : Str))
section
variable {G : Gl} {K : Sx} {A : Around} {env : Env} {n t : Str} {e C : Addr} {F : Fz} {s : Shared} {E : Value → Shared → Prop} {c : Value} {p q q₁ q₂ q₃ q₄ : Pos} {b : Bool} {ex : PySem.Expr} {x y : V}
theorem SG.in (k : SG G K env F s) : ∀ b o, G.B.get? b = some o → s.heap.get? b = some o := fun b o h => k.sub b o (k.base b o h)
theorem SG.glob {x : Str} {Q : Value → Shared → Prop} (k : SG G K env F s) (hv : G.mg x = some c ∨ (G.mg x = none ∧ G.mb x = some c)) (h : j8 K x = true) (h2 : Q c s) : wpAny G.M A (eval (.Name x p) env) Q E s := by
 have hg := al9 h
 refine Calls.Name_function_global k.kind (by show env.scope.names.lookup x = _; rw [k.sc]; exact hg.1) ?_ hg.2
 have hG : s.heap.Ns env.globals G.mg := by rw [k.globals]; exact k.go.g.keeps k.in
 exact hv.elim (fun hv => Calls.loadGlobal_global hG hv h2) fun hv => Calls.loadGlobal_builtin hG hv.1 (by rw [k.builtins]; exact k.go.b.keeps k.in) hv.2 h2
theorem SOk.step {F' : Fz} {s' : Shared} (k : SOk G K env n e C F s) (S : St G.x N0 F s F' s') : SOk G K env n e C F' s' :=
 ⟨⟨k.g.go, fun a o e => S.up a o (k.g.base a o e), S.sub, k.g.sc, k.g.kind, k.g.globals, k.g.builtins⟩, k.loc.imp fun m q => ⟨U1 q.1 fun o e => S.keepO _ o e id, q.2⟩, k.exc.imp fun oe q => q.imp fun vs q => ⟨S.keep _ _ q.1 id (fun _ _ h => nomatch q.2.2.symm.trans h), q.2⟩⟩
end
section
variable {G : Gl} {K : Sx} {A : Around} {env : Env} {ρ : List V} {σ : Ow} {F : Fz} {s : Shared} {E : Value → Shared → Prop} {Q : KS} {ss body : List Stmt} {C : Addr} {p np pos : Pos} {x n : Str} {z : V} {hs : List ExceptHandler} {h₀ : ExceptHandler}
theorem aQ5 (h : WS G K body ρ σ (Kc G K ss Q)) : WS G K (.Try body (h₀ :: hs) [] [] p :: ss) ρ σ Q :=
 w4 fun A env F s E k => wpAny_Try_except (wpAny_mono (h A env F s _ k) (fun f s₁ q => q.casesOn fun fl ρ' σ' F' hf k' L q => by
  cases f <;> cases fl <;> first | exact hf.elim | skip
  ·exact wpAny_execs_nil ⟨.next, ρ', σ', F', trivial, k', L, q⟩
  ·exact ⟨_, ρ', σ', F', hf, k', L, q⟩) fun _ _ e => e)
theorem bl6 {n i : Nat} {v : V} (h : (List.replicate n V.unb)[i]? = some v) : v = .unb := by
 obtain ⟨_, h⟩ := List.getElem?_eq_some_iff.mp h
 rw [List.getElem_replicate] at h; exact h.symm
theorem FOk.forget (k : FOk G K A env ρ σ F s) {h' : Heap} {t : Nat} {m : Str → Option Value} (hn : h'.Ns env.locals m) (hs : Heap.SameBut env.locals s.heap h') : FOk G K A env (List.replicate K.ns.length .unb) σ F { s with heap := h', toks := t } ∧ Lk G.x env σ F s σ F { s with heap := h', toks := t } := by
 obtain ⟨mm, ⟨o, es, ep, ho, hd, hr⟩, vars⟩ := k.e.loc.vars
 have up : ∀ b o, b ≠ env.locals → s.heap.get? b = some o → h'.get? b = some o := hs.extBut
 have ncell : ∀ {c : Addr} {ov : Option Value}, s.heap.IsCell c ov → h'.IsCell c ov := fun h => h.sameBut hs (by rintro rfl; obtain ⟨oc, hoc, hdc⟩ := h; rw [ho] at hoc; cases hoc; rw [hd] at hdc; cases hdc)
 obtain ⟨o', es', ep', ho', hd', _⟩ := id hn
 refine ⟨⟨⟨⟨k.e.rm.go, k.e.rm.base, fun a o e => up a o (by rintro rfl; exact nomatch k.e.loc.out.symm.trans e) (k.e.rm.sub a o e), k.e.rm.depth, k.e.rm.units, k.e.rm.handled, k.e.rm.frs fun L _ hL t => ⟨hL, (Classical.em (L = env.locals)).elim (fun e => by subst e; exact ⟨o', es', ep', ho', hd'⟩) fun e => t.imp fun _ t => t.imp fun _ t => t.imp fun _ t => ⟨up _ _ e t.1, t.2⟩⟩⟩,
  k.e.sc, k.e.kind, k.e.globals, k.e.builtins, fun a xs q => (k.e.own a xs q).imp id fun t => t.imp fun o t => ⟨up _ _ (by rintro rfl; exact (k.sep _ xs q).1 (.inl rfl)) t.1, t.2⟩,
  ⟨List.length_replicate, k.e.loc.out, m, hn, fun i y v hy hv => ?_⟩⟩, k.top, k.apart, k.nodup, fun x c hc => (k.own x c hc).imp (fun h => h.imp fun _ h => ncell h) id, k.sep⟩,
  ⟨St.change k.e.rm.sub k.e.loc.out (.inl (.inl (.inl rfl))) hs.extBut ⟨o', ho', fun _ _ _ _ _ => ⟨es', ep', hd'⟩⟩, fun b xs q => .inl ⟨xs, q, id⟩⟩⟩
 cases bl6 hv
 have hi : i < ρ.length := by rw [k.e.loc.len]; exact (List.getElem?_eq_some_iff.mp hy).1
 exact ⟨fun _ h => absurd rfl h, fun hc => ((vars i y _ hy (List.getElem?_eq_getElem hi)).2 hc).imp fun c u => u.imp fun ov u => ⟨u.1, ncell u.2.1, fun h => absurd rfl h, u.2.2.2⟩⟩
theorem FOk.sg (k : FOk G K A env ρ σ F s) : SG G K env F s := ⟨k.e.rm.go, k.e.rm.base, k.e.rm.sub, k.e.sc, k.e.kind, k.e.globals, k.e.builtins⟩
end
theorem bo2 {s : Shared} {x t : Str} {b : Bool} (h : aR7 s x t b = true) : O7 (s.heap.nsMap mainGlobals) s.heap x t b := by
 unfold aR7 at h
 split at h
 ·rename_i C T h1 h2
  split at h
  ·rename_i o h3
   split at h
   ·rename_i cd h4
    exact ⟨C, T, o, cd, h1, h2, h3, h4, eq_of_beq h⟩
   ·cases h
  ·cases h
 ·cases h
def MroP (l : List (Str × Str × Bool)) (mg : Str → Option Value) (h : Heap) : Prop := ∀ p ∈ l, O7 mg h p.1 p.2.1 p.2.2
theorem bo1 {l : List (Str × Str × Bool)} {s : Shared} (h : (l.all fun p => aR7 s p.1 p.2.1 p.2.2) = true) : MroP l (s.heap.nsMap mainGlobals) s.heap := fun p hp => bo2 (List.all_eq_true.mp h p hp)
theorem MroP.keeps {l : List (Str × Str × Bool)} (mg : Str → Option Value) (h h' : Heap) (x : MroP l mg h) (k : ∀ b o, h.get? b = some o → h'.get? b = some o) : MroP l mg h' := fun p hp =>
 (x p hp).imp fun _ q => q.imp fun _ q => q.imp fun _ q => q.imp fun _ q => ⟨q.1, q.2.1, k _ _ q.2.2.1, q.2.2.2⟩
theorem M7 {p : Program} {loose : List Str} {mean : ExcName → Option Value} {mg mb : Str → Option Value} {h : Heap} (T : Top p loose mean mg mb h) {x : Str} (hs : specOf p x = some ("ValueError.__new__", vbm)) : ∃ C, OwnClsQ x C vbm "ValueError.__new__" mg h := (T.ownAt hs).imp fun _ q => q.1
theorem bm2 {p : Program} {loose : List Str} {mean : ExcName → Option Value} {mg mb : Str → Option Value} {h : Heap} (T : Top p loose mean mg mb h) (hk : ah3 p loose "ValueError" = true) : mg "ValueError" = none ∧ mb "ValueError" = some (.type "ValueError") :=
 (ae4 T hk).imp id fun q => q.trans (by decide +kernel)
theorem aM6 {p : Program} {loose : List Str} {mean : ExcName → Option Value} {mg mb : Str → Option Value} {h : Heap} (T : Top p loose mean mg mb h) (hi : importsNone p = true) : ∃ o, h.get? sysModules = some o := by
 obtain ⟨mm, hm, _⟩ := (T.seer hi).mods
 exact U4 hm
section
variable {G : Gl} {K : Sx} {A : Around} {env : Env} {ρ : List V} {σ : Ow} {F : Fz} {s : Shared} {ss body : List Stmt} {C : Addr} {p : Pos} {e t : PySem.Expr} {x : V} {xs : List V}
theorem aZ4 (I : Nat → List V → Ow → Prop) (j : Nat) (hj : j < xs.length) (h1 : Ev G K ρ σ e x) (hi : K2 x = some xs) (h0 : I 0 ρ σ) (turn : ∀ (i : Nat) ρ σ y, i < j → xs[i]? = some y → I i ρ σ → ∃ ρ', Asg G K t y ρ ρ' ∧ WS G K body ρ' σ (Kf I (i + 1) fun _ _ _ => False))
  (last : ∀ ρ σ y, xs[j]? = some y → I j ρ σ → ∃ ρ', Asg G K t y ρ ρ' ∧ WR G K body ρ' σ C) (hns : ∀ env v, foldedSetIterable e env v = pure v := by intros; rfl) : WR G K (.For t e body [] p :: ss) ρ σ C :=
 K0 fun A env F s k => am1 (R := fun _ _ => False) (Ex := PX G K A env σ F s C) (fun i ρ σ _ _ => i ≤ j ∧ I i ρ σ) k (St.refl k.e.rm.sub).lk (h1.bind k.e fun v F₁ s₁ S r _ => ⟨F₁, S, r, Nat.zero_le _, h0⟩) (aI3 hi) (fun _ _ h => bn5 h) (fun _ _ _ _ _ _ h _ => h) (fun i ρ' σ' F' s' y v hy k' L' hI hr => by
  rcases Nat.lt_or_ge i j with hlt | hge
  ·obtain ⟨ρ₂, ha, hb⟩ := turn i ρ' σ' y hlt hy hI.2
   refine ha A env σ' F' s' _ v _ k' hr fun h₂ t₂ k₂ L₂ _ => wpAny_mono (hb A env F' _ _ k₂) (fun f s₃ h => h.casesOn fun fl ρ₃ σ₃ F₃ hf k₃ L₃ q => ⟨fl, ρ₃, σ₃, F₃, hf, k₃, L'.trans (L₂.trans L₃), (L₂.trans L₃).recs k', ?_, ?_⟩) fun _ _ e => e
   ·rintro rfl; exact ⟨hlt, q⟩
   ·rintro x rfl; exact q
  ·cases Nat.le_antisymm hI.1 hge
   obtain ⟨ρ₂, ha, hb⟩ := last ρ' σ' y hy hI.2
   exact ha A env σ' F' s' _ v _ k' hr fun h₂ t₂ k₂ L₂ _ => wpAny_mono (hb A env F' _ k₂) (fun _ _ q => q.elim) fun _ _ q => q.from (L'.trans L₂)) (fun ρ' σ' F' s' _ _ hI => absurd hI.1 (Nat.not_le.mpr hj)) (hns env)
theorem ar5 {M : Model} {Γ : _} {E : Value → _ → Shared → Prop} {Q : Flow → Shared → Prop} : ∀ (as : List Stmt) p s, Sem.wp M Γ (execs as env) (fun f _ s' => match f with | .next => ∀ p', Sem.wp M Γ (execs ss env) (fun f _ s => Q f s) E p' s' | f => Q f s') E p s → Sem.wp M Γ (execs (as ++ ss) env) (fun f _ s => Q f s) E p s
 | [], p, s, h => h p
 | st :: as, p, s, h => by
  show Sem.wp M Γ (execs (st :: (as ++ ss)) env) _ E p s
  rw [execs_cons, Sem.wp_bind'] at h ⊢
  refine Sem.wp_mono M Γ _ (fun f p' s' h' => ?_) (fun _ _ _ h' => h') _ _ h
  cases f <;> first | exact ar5 as p' s' h' | exact h'
theorem G0 (as : List Stmt) (h : WS G K as ρ σ fun fl ρ' σ' => fl = .next ∧ WR G K ss ρ' σ' C) : WR G K (as ++ ss) ρ σ C := fun A env F s k Γ p hΓ => by
 refine ar5 as p s (Sem.wp_mono G.M Γ _ (fun f p' s' h' => ?_) (fun _ _ _ h' => h') _ _ (h A env F s _ k Γ p hΓ))
 exact h'.casesOn fun fl ρ' σ' F' hf k' L q => by
  cases q.1
  cases f <;> first | exact hf.elim | skip
  exact fun p' => ag8 L (q.2 A env F' s' k') Γ p' hΓ
end
def aC9 (G : Gl) (ks : List (List Nat)) (a : Addr) (o : Obj) (_ : Addr) (_ : Obj) : Prop := (a == sysModules) = false ∧ ∃ f : Str → Option Value, (∀ h : Heap, h.get? a = some o → h.MapOf (strKind G.prog G.w) a f) ∧ ∀ k : List Nat, (f ⟨k.toArray⟩).isSome = decide (k ∈ ks)
section
variable {G : Gl} {K : Sx} {A : Around} {env : Env} {ρ : List V} {σ : Ow} {F : Fz} {s : Shared} {ss : List Stmt} {Q : KS} {ks : List (List Nat)} {a : List Nat}
theorem X5 {l r : PySem.Expr} {p : Pos} (h1 : Ev G K ρ σ l (.str a)) (h2 : Ev G K ρ σ r (.obj (aC9 G ks))) (hm : behindInMarks .In r = false := by rfl) : Tr G K ρ σ (.Compare l [.In] [r] p) (decide (a ∈ ks)) := fun A env F s E k =>
 wpAny_isTrue_Compare1 (h1.bind k fun v F₁ s₁ S₁ r₁ k₁ => h2.bind k₁ fun w F₂ s₂ S₂ r₂ k₂ => by
  obtain ⟨t, rfl⟩ := r₁
  obtain ⟨d, o, _, _, rfl, hF, _, hs, f, hm, hf⟩ := r₂
  refine wpAny_in_of (knd := strKind G.prog G.w) (k := ⟨a.toArray⟩) (beq_self_eq_true _) hs (hm _ (k₂.rm.sub _ _ hF)) ?_
  rw [hf]
  exact wpAny_truthy_bool ⟨F₂, (S₁.trans S₂).trans (St.grow (t := s₂.toks + 1) k₂.rm.sub fun _ _ e => e), rfl⟩) hm
theorem aG5 (kvs : List (Str × Value)) (k k' : Str) (v : Value) : (valueAt (stored kvs k v) k').isSome = (decide (k' = k) || (valueAt kvs k').isSome) := by
 have e : ∀ (l : List (Str × Value)), (valueAt l k').isSome = l.any fun x => decide (x.1 = k') := fun l => by
  unfold valueAt; rw [Option.isSome_map, Bool.eq_iff_iff, List.find?_isSome, List.any_eq_true]
 rw [e, e]
 unfold stored
 split
 ·rename_i h
  rw [List.any_map, Bool.eq_iff_iff, Bool.or_eq_true, List.any_eq_true, List.any_eq_true, decide_eq_true_eq]
  constructor
  ·rintro ⟨x, hx, q⟩
   refine .inr ⟨x, hx, ?_⟩
   simp only [Function.comp] at q
   split at q <;> exact q
  ·rintro (rfl | ⟨x, hx, q⟩)
   ·obtain ⟨x, hx, q⟩ := List.any_eq_true.mp h
    refine ⟨x, hx, ?_⟩
    simp only [Function.comp]; split <;> exact q
   ·refine ⟨x, hx, ?_⟩
    simp only [Function.comp]; split <;> exact q
 ·rw [List.any_append, Bool.or_comm]
  congr 1
  rw [List.any_cons, List.any_nil, Bool.or_false]
  exact decide_eq_decide.mpr ⟨Eq.symm, Eq.symm⟩
theorem aG6 (kvs : List (Str × Value)) (k : Str) (v : Value) : (stored kvs k v).length ≤ kvs.length + 1 := by
 unfold stored; split
 ·rw [List.length_map]; exact o5 _ .o c8 i9 tt
 ·rw [List.length_append]; exact Nat.le_refl _
theorem FOk.freeze {a : Addr} {o : Obj} {P : Addr → Obj → Addr → Obj → Prop} {i : Nat} (k : FOk G K A env ρ σ F s) (hv : ρ[i]? = some (.ref a)) (ho : s.heap.get? a = some o) (hF : F a = none) (hP : P a o a o) (hl : ∀ c, σ a ≠ some c) (hc : ∀ v, o.data ≠ .cell v) (hL : a ≠ env.locals) (hf : L6 A a) : FOk G K A env (ρ.set i (.obj P)) σ (F.add a o) s := by
 have up : ∀ b p, F b = some p → F.add a o b = some p := fun b p e => (if_neg (by rintro rfl; exact nS (hF.symm.trans e))).trans e
 have ne : ∀ {b : Addr}, F b = none → b ≠ a → F.add a o b = none := fun h e => (if_neg e).trans h
 have cl : ∀ {c : Addr} {ov : Option Value}, s.heap.IsCell c ov → c ≠ a := fun h => by rintro rfl; obtain ⟨oc, hoc, hdc⟩ := h; cases ho.symm.trans hoc; exact hc _ hdc
 obtain ⟨m, hm, vars⟩ := k.e.loc.vars
 have rel : ∀ {j : Nat} {w : V} {ov : Option Value}, (ρ.set i (.obj P))[j]? = some w → (∀ w', ρ[j]? = some w' → RelO F w' ov) → RelO (F.add a o) w ov := fun hw h => by
  rcases at2 hw with ⟨rfl, rfl⟩ | ⟨_, hw⟩
  ·intro _
   obtain ⟨v, e, r⟩ := h _ hv (by intro q; cases q)
   exact ⟨v, e, a, o, a, o, r, if_pos rfl, if_pos rfl, hP⟩
  ·exact (h _ hw).mono up
 refine ⟨⟨⟨k.e.rm.go, fun b p e => up b p (k.e.rm.base b p e), fun b p e => ?_, k.e.rm.depth, k.e.rm.units, k.e.rm.handled, k.e.rm.frs fun L hn hL t => ⟨ne hL (by rintro rfl; exact hn hf), t⟩⟩, k.e.sc, k.e.kind, k.e.globals, k.e.builtins, fun b xs q => ?_, ⟨by rw [List.length_set]; exact k.e.loc.len, ne k.e.loc.out hL.symm, m, hm, fun j y w hy hw => ?_⟩⟩, k.top, k.apart, k.nodup, fun x c hx => ?_, k.sep⟩
 ·by_cases h : b = a
  ·subst h; cases (if_pos rfl).symm.trans e; exact ho
  ·exact k.e.rm.sub b p ((if_neg h).symm.trans e)
 ·obtain ⟨h1, oo, h2, r⟩ := k.e.own b xs q
  exact ⟨ne h1 (by rintro rfl; exact hl _ q), oo, h2, r.mono up⟩
 ·have hj : j < ρ.length := by have := (List.getElem?_eq_some_iff.mp hw).1; rwa [List.length_set] at this
  refine ⟨fun hk => rel hw fun w' h => (vars j y w' hy h).1 hk, fun hk => ?_⟩
  obtain ⟨c, ov, u1, u2, u3, u4⟩ := (vars j y _ hy (List.getElem?_eq_getElem hj)).2 hk
  refine ⟨c, ov, u1, u2, rel hw fun w' h => ?_, ne u4 (cl u2)⟩
  cases (List.getElem?_eq_getElem hj).symm.trans h
  exact u3
 ·obtain ⟨h1, h2⟩ := k.own x c hx
  exact ⟨h1, h1.elim fun _ h => ne h2 (cl h)⟩
theorem szl : 10000 ≤ sizeLine := by decide
inductive ca4 (G : Gl) (y : V) (rs : List J6) (a : Addr) (σ : Ow) (n : Nat) (ρ' : List V) (σ' : Ow) (F' : Fz) (h' : Heap) : Prop
 | mk (u v : V) (kvs : List (Str × Value)) (e1 : σ' = σ) (e2 : ρ' = [y, .lst (rs.map l9), .ref a, u, v]) (hF : F' a = none) (hD : h'.DictOf (strKind G.prog G.w) a kvs) (hlen : kvs.length ≤ n) (hmem : ∀ x : List Nat, (valueAt kvs ⟨x.toArray⟩).isSome = decide (x ∈ (rs.take n).map (·.1)))
theorem aL8 {nk nn nb : Str} {rs : List J6} {y : V} {ne : Str} {kk : Nat} {q0 q1 q2 q3 q4 q5 q6 q7 q8 q9 q10 q11 q12 : Pos} (hsy : ∃ o, G.B.get? sysModules = some o) (hn : rs.length ≤ 10000) (h : ∀ u v, WS G K ss [y, .lst (rs.map l9), .obj (aC9 G (rs.map (·.1))), u, v] σ Q)
  (hk : w0 K 2 nk = true := by decide +kernel) (hj' : w0 K 3 nn = true := by decide +kernel) (hl' : w0 K 4 nb = true := by decide +kernel) (he' : w0 K 1 ne = true := by decide +kernel) :
  WS G K (.Assign [.Name nk q0] (.Dict [] [] q1) q2 :: .For (.Tuple [.Name nn q3, .Name nb q4] kk q5) (.Name ne q6) [.Assign [.Subscript (.Name nk q7) (.Name nn q8) q9] (.Name nb q10) q11] [] q12 :: ss) [y, .lst (rs.map l9), .unb, .unb, .unb] σ Q := fun A env F s E k => by
 have up0 : ∀ b o, s.heap.get? b = some o → (s.heap.push { cls := .type "dict", data := .dict #[] }).get? b = some o := fun b o e => Heap.get?_push_of_some _ e
 have S0 : St G.x N0 F s F { s with heap := s.heap.push { cls := .type "dict", data := .dict #[] } } := .grow (t := s.toks) k.e.rm.sub up0
 have D0 : (s.heap.push { cls := .type "dict", data := .dict #[] }).DictOf (strKind G.prog G.w) s.heap.objs.size [] := .new _
 have ha0 : s.heap.get? s.heap.objs.size = none := j9 _
 refine wpAny_execs_cons (wpAny_Assign_Name (wpAny_Dict_empty ?_) rfl)
 generalize s.heap.objs.size = a at *
 have hsys : (a == sysModules) = false := beq_false_of_ne (by rintro rfl; exact hsy.elim fun o e => nS (ha0.symm.trans (k.e.rm.in _ _ e)))
 have hF0 : F a = none := k.e.rm.out ha0
 have hfr : L6 A a := k.e.rm.nofr fun o es n e => nS (ha0.symm.trans e)
 have hown : ¬ Own env a := by
  rintro (rfl | ⟨x, hx⟩)
  ·obtain ⟨m, hm, _⟩ := k.e.loc.vars
   exact (U4 hm).elim fun o e => nS (ha0.symm.trans e)
  ·exact (k.own x a hx).1.elim fun _ h => h.elim fun _ h => nS (ha0.symm.trans h.1)
 have hσ : ∀ xs, σ a ≠ some xs := fun xs q => (k.e.own a xs q).2.elim fun _ q => nS (ha0.symm.trans q.1)
 refine A5 (k.step S0) hk (show Rel F (.ref a) (.ref a) from rfl) fun h₁ t₁ k₁ L₁ hk₁ => ?_
 have keepD : ∀ {h h' : Heap} {kvs : List (Str × Value)}, h.DictOf (strKind G.prog G.w) a kvs → (∀ o, h.get? a = some o → (∀ vs, o.data ≠ .fields vs) → h'.get? a = some o) → h'.DictOf (strKind G.prog G.w) a kvs := fun hD hk => hD.imp fun o r => r.imp fun es r => r.imp fun ep r => ⟨hk o r.1 fun vs q => (nomatch r.2.2.1.symm.trans q), r.2⟩
 have D1 := keepD (h' := h₁) D0 fun o e _ => hk₁ a o hown e
 have LL := S0.lk.trans L₁
 refine wpAny_execs_cons (am1 (x := .lst (rs.map l9)) (R := fun f s' => match f with | .next => wpAny G.M A (execs ss env) (PS G K A env σ F s Q) E s' | f => PS G K A env σ F s Q f s') (Ex := notedBy G.M A env (cameBackBy G.M A env E))
  (ca4 G y rs a σ) k₁ LL ?_ (aI3 rfl) (fun _ _ h => h) ?_ ?_ ?_ fun v => rfl)
 ·exact L1 k₁.e (i := 1) (x := .lst (rs.map l9)) rfl rfl he' fun v r => ⟨F, .refl k₁.e.rm.sub, r, _, _, [], rfl, rfl, hF0, D1, Nat.le_refl _, fun x => by simp [valueAt]⟩
 ·rintro n ρ' σ' F' h h' ⟨u, v, kvs, h1, h2, h3, h4, h5, h6⟩ hk
  exact ⟨u, v, kvs, h1, h2, h3, keepD h4 fun o e q => hk a o e q, h5, h6⟩
 ·rintro n ρ' σ' F' s' x v hx k' L' ⟨u, w, kvs, rfl, rfl, hF', hD, hlen, hmem⟩ hr
  rw [List.getElem?_map] at hx
  obtain ⟨r, hr', rfl⟩ := Option.map_eq_some_iff.mp hx
  have hnl : n < rs.length := (List.getElem?_eq_some_iff.mp hr').1
  refine D4 (y := .str r.1) (z := .int r.2) 3 4 hj' hl' A env σ' F' s' _ v _ k' hr fun h₂ t₂ k₂ L₂ hk₂ => wpAny_execs_cons (wpAny_Assign_Subscript ?_ rfl)
  have D2 := keepD (h' := h₂) hD fun o e _ => hk₂ a o hown e
  refine L1 k₂.e (i := 4) (x := .int r.2) rfl rfl hl' fun v4 r4 => L1 k₂.e (i := 2) (x := .ref a) rfl rfl hk fun v2 r2 => L1 k₂.e (i := 3) (x := .str r.1) rfl rfl hj' fun v3 r3 => ?_
  cases show v2 = .ref a from r2
  obtain ⟨t3, rfl⟩ := r3
  refine wpAny_setItem_pairs (knd := strKind G.prog G.w) (k := ⟨r.1.toArray⟩) (beq_self_eq_true _) D2 (fun h₃ D3 hs₃ => ?_) (by have := szl; exact I0 _ _ _ _ (.k 1 (.num 10000) c8 (.k 1 d5 e9 (.k 1 o7 (.num 10000) (.k 1 D9 o7 .o)))) d5 c8 tt this hlen hn hnl)
  have own₃ : ∀ b xs, σ' b = some xs → F' b = none ∧ ∃ o, h₃.get? b = some o ∧ OcR G.x F' o xs := fun b xs q => (k₂.e.own b xs q).imp id fun q' => q'.imp fun _ q' => ⟨hs₃.extBut _ _ (by rintro rfl; exact hσ xs q) q'.1, q'.2⟩
  have k₃ := k₂.other (t := t₂ + 1) hF' hs₃.extBut hown hfr own₃ k₂.sep
  obtain ⟨o₂, es₂, ep₂, ho₂, _, hd₂, _⟩ := D2
  obtain ⟨o₃, es₃, ep₃, ho₃, _, hd₃, _⟩ := id D3
  have L₃ : Lk G.x env σ' F s σ' F' { s' with heap := h₃, toks := t₂ + 1 } := (L'.trans L₂).priv hF' ha0 hs₃.extBut
  have rc := L₂.recs k'
  refine wpAny_execs_nil ⟨.next, _, σ', F', trivial, k₃, L₃, ⟨fun _ _ e => e, fun b o vs ho hd hFb hσb => ?_⟩, fun _ => ⟨_, _, _, rfl, rfl, hF', D3, Nat.le_trans (aG6 ..) (Nat.succ_le_succ hlen), fun x => ?_⟩, nofun⟩
  ·obtain ⟨g1, g2, g3⟩ := rc.2 b o vs ho hd hFb hσb
   exact ⟨hs₃.extBut b o (by rintro rfl; cases g1.symm.trans ho₂; exact nomatch hd.symm.trans hd₂) g1, g2, g3⟩
  ·rw [aG5, hmem, List.take_succ_eq_append_getElem hnl, List.map_append, Bool.eq_iff_iff, Bool.or_eq_true, decide_eq_true_eq, decide_eq_true_eq, decide_eq_true_eq, List.mem_append, or_comm]
   refine or_congr Iff.rfl ?_
   rw [List.map_cons, List.map_nil, List.mem_singleton, (List.getElem?_eq_some_iff.mp hr').2]
   exact ⟨fun e => by have := congrArg (fun z : Str => z.cps.toList) e; simpa using this, fun e => by rw [e]⟩
 ·rintro ρ' σ' F' s' k' L' ⟨u, w, kvs, rfl, rfl, hF', hD, hlen, hmem⟩
  obtain ⟨o, es, ep, ho, hc, hd, hr⟩ := hD
  have k₂ := k'.freeze (i := 2) (P := aC9 G (rs.map (·.1))) rfl ho hF' ⟨hsys, valueAt kvs, fun h' e => Heap.DictOf.mapOf ⟨o, es, ep, e, hc, hd, hr⟩, fun x => by rw [hmem, List.length_map, List.take_length]⟩ hσ (fun v q => nomatch hd.symm.trans q) (fun e => hown (.inl e)) hfr
  have LF : Lk G.x env σ' F s σ' (F'.add a o) s' := ⟨L'.S.freeze ha0 ho hF', fun _ xs q => .inl ⟨xs, q, id⟩⟩
  exact wpAny_mono (h u w A env _ s' E k₂) (fun _ _ q => q.from LF) fun _ _ e => e
end
section
variable {M : Model} {A : Around} {E : Value → Shared → Prop} {h : Heap} {g : Array GenState} {d : Drawn} {t : Nat} {os : OsState}
variable {nm q nm' q' : Str} {C N C' N' : Addr} {bs bm bs' bm' : List Value} {hdct hdct' : Bool} {sn sn' : List Str} {sub sub' : List Value} {ab ab' : Bool} {col col' : Option Bool} {dd dd' : Option Addr} {k0 k1 k2 k3 k5 l0 l1 l2 l3 l5 : Option Value} {newId newId' : String}
end
section
variable {G : Gl} {K : Sx} {A : Around} {env : Env} {ρ : List V} {σ : Ow} {F : Fz} {s : Shared} {E : Value → Shared → Prop} {Q : KS} {ss body : List Stmt} {C C' : Addr} {p np np' pos pos' : Pos} {x x' n n' : Str} {z : V} {hs : List ExceptHandler} {e : PySem.Expr} {es : List PySem.Expr} {xs : List V} {f : Str}
end
section
variable {G : Gl} {K : Sx} {ρ : List V} {σ : Ow} {e l m r : PySem.Expr} {x y z : V} {p q : Pos} {b c : Bool} {i j k' : Int} {a : List Nat}
theorem N4 {n : Str} (h : ∃ t, G.mg n = some (.int i t)) (hg : j8 K n = true := by decide +kernel) : Ev G K ρ σ (.Name n p) (.int i) := fun A env F s E k => h.elim fun t h => n7 k (.inl h) hg (J0 k ⟨t, rfl⟩)
theorem bf6 {o₁ o₂ : CmpOp} (h1 : Ev G K ρ σ l x) (h2 : Ev G K ρ σ m y) (h3 : Ev G K ρ σ r z) (c1 : Cm G o₁ x y b) (c2 : Cm G o₂ y z c) (hm : lastMarks [o₁, o₂] [m, r] = false := by with_unfolding_all rfl) : Ev G K ρ σ (.Compare l [o₁, o₂] [m, r] p) (.bool (b && c)) := fun A env F s E k =>
 Compare_chain (h1.bind k fun v F₁ s₁ S₁ r₁ k₁ => chain_link (h2.bind k₁ fun w F₂ s₂ S₂ r₂ k₂ => c1 A F₂ s₂ E v w _ k₂.rm (r₁.mono S₂.up) r₂ (wpAny_truthy_bool (by
  cases b
  ·rw [if_neg Bool.false_ne_true]; exact ⟨F₂, S₁.trans S₂, rfl⟩
  ·rw [if_pos rfl]
   refine chain_last (h3.bind k₂ fun u F₃ s₃ S₃ r₃ k₃ => ?_)
   exact c2 A F₃ s₃ E w u _ k₃.rm (r₂.mono S₃.up) r₃ ⟨F₃, (S₁.trans S₂).trans S₃, rfl⟩)))) hm
theorem bB1 {c : Nat} (h1 : Ev G K ρ σ e (.str [c])) (hs : f0 e = true := by rfl) (hg : j8 K "ord" = true := by decide +kernel) : Ev G K ρ σ (.Call (.Name "ord" q) [e] [] p) (.int c) :=
 ar7 8 rfl hg (by rw [List.all_cons, hs]; rfl) (b8 h1 b9) fun A env F s E vs k r => by
  obtain ⟨v, rfl, t, rfl⟩ := ag0 r
  exact P.ord_of_char (s7 k.rm _ ⟨_, rfl⟩)
theorem as2 {F : Fz} : ∀ {bs : List Bool} {vs : List Value}, RelL F (bs.map .bool) vs → vs = bs.map .bool
 | [], _, rfl => rfl
 | _ :: _, _, ⟨_, _, rfl, rfl, r⟩ => congrArg _ (as2 r)
theorem bB6 {bs : List Bool} (h1 : Ev G K ρ σ e (.lst (bs.map .bool))) (hs : f0 e = true := by rfl) (hg : j8 K "all" = true := by decide +kernel) : Ev G K ρ σ (.Call (.Name "all" q) [e] [] p) (.bool (bs.all id)) :=
 ar7 9 rfl hg (by rw [List.all_cons, hs]; rfl) (b8 h1 b9) fun A env F s E vs k r => by
  obtain ⟨v, rfl, r'⟩ := ag0 r
  obtain ⟨a, us, rfl, ⟨n, ha⟩, rl⟩ := r'
  cases as2 rl
  have hl : s.heap.IsList a (bs.map Value.bool).toArray := ⟨_, k.rm.sub _ _ ha, rfl, n, rfl⟩
  have hne : a ≠ s.heap.objs.size := by rintro rfl; exact nS ((j9 s.heap).symm.trans (k.rm.sub _ _ ha))
  refine call_all_walk (wpAny_pyIter_list hl ⟨_, _, _, _, _, _, fun i => bs.getD i true, rfl, Walks.list (by simp [k.rm.handled]) _ a hne _, ⟨⟨_, Heap.get?_push_size _ rfl, rfl, rfl⟩, hl.push _⟩, fun i v s' Q E' hv hQ => ?_, fun h' tk hk => ?_⟩)
  ·have hv : bs[i]?.map Value.bool = some v := by simpa using hv
   obtain ⟨b, hb, rfl⟩ := Option.map_eq_some_iff.mp hv
   have hQ : Q (bs.getD i true) s' := hQ
   rw [List.getD_eq_getElem?_getD, hb] at hQ
   exact wpAny_truthy_bool hQ
  ·have e : ((List.range (bs.map Value.bool).toArray.size).all fun i => bs.getD i true) = bs.all id := by
    rw [List.size_toArray, List.length_map, Bool.eq_iff_iff, List.all_eq_true, List.all_eq_true]
    constructor
    ·intro h b hb
     obtain ⟨i, hi, rfl⟩ := List.getElem_of_mem hb
     have := h i (List.mem_range.mpr hi)
     rwa [List.getD_eq_getElem?_getD, List.getElem?_eq_getElem hi] at this
    ·intro h i hi
     have hi := List.mem_range.mp hi
     rw [List.getD_eq_getElem?_getD, List.getElem?_eq_getElem hi]
     exact h _ (List.getElem_mem hi)
   rw [e]
   refine ⟨F, .grow (t := tk) k.rm.sub fun b o eb => hk b o ?_ (Heap.get?_push_of_some _ eb), rfl⟩
   rw [List.mem_singleton]; rintro rfl; exact nS ((j9 s.heap).symm.trans eb)
end
noncomputable def dec (i : Int) : List Nat := (Str.ofString (toString i)).cps.toList
noncomputable abbrev txt (a : List Nat) : Str := ⟨a.toArray⟩
section
variable {G : Gl} {K : Sx} {A : Around} {env : Env} {ρ : List V} {σ : Ow} {F : Fz} {s : Shared} {E : Value → Shared → Prop} {e l r c : PySem.Expr} {x y z : V} {p q ap : Pos} {b : Bool} {i : Int} {a a' : List Nat} {ts : List (List Nat)} {sep : List Nat}
theorem av4 (h1 : Ev G K ρ σ e (.int i)) (hi : i.natAbs < 10 ^ 70) (hs : f0 e = true := by rfl) (hg : j8 K "str" = true := by decide +kernel) : Ev G K ρ σ (.Call (.Name "str" q) [e] [] p) (.str (dec i)) :=
 am5 10 rfl hg (by rw [List.all_cons, hs]; rfl) (b8 h1 b9) fun A env F s E vs k r => by
  obtain ⟨v, rfl, t, rfl⟩ := ag0 r
  refine P.str_of_int ?_ (s7 k.rm _ ⟨_, rfl⟩)
  by_cases h0 : i.natAbs = 0
  ·rw [h0]; decide
  ·exact (Nat.log2_lt h0).mpr (Nat.lt_of_lt_of_le hi (Nat.le_trans (by decide +kernel : 10 ^ 70 ≤ 2 ^ 250) (Nat.pow_le_pow_right (by decide) (by decide))))
end
section
variable {G : Gl} {K : Sx} {A : Around} {env : Env} {ρ : List V} {σ : Ow} {F : Fz} {s : Shared} {E : Value → Shared → Prop} {Q : KS} {e l r c : PySem.Expr} {x y z : V} {p q q' ap : Pos} {ss : List Stmt} {xs ys : List V}
theorem aH3 (vs : List Value) (lo hi : Option Int) : slicePick vs.toArray lo hi none = (slice vs lo hi).toArray := by
 have e : (sliceRange (sliceBounds lo hi none vs.length).1 (sliceBounds lo hi none vs.length).2.1 (sliceBounds lo hi none vs.length).2.2) = (List.range (w8 hi vs.length vs.length - w8 lo 0 vs.length)).map (w8 lo 0 vs.length + ·) := by
  rw [← sliceRange_one]
  unfold sliceBounds
  simp only [Option.getD_none, show (1 : Int) > 0 by decide, if_true]
  congr 1
  ·cases lo with
   | none => rfl
   | some i => simp only [w8]; split <;> (first | exact a10 ‹_› | exact a11 ‹_›)
  ·cases hi with
   | none => rfl
   | some i => simp only [w8]; split <;> (first | exact a10 ‹_› | exact a11 ‹_›)
 unfold slicePick
 rw [List.size_toArray, e, pick_run]
 unfold slice
 rw [List.drop_take]
theorem RelL.slice {lo hi : Option Int} {vs : List Value} (rl : RelL F xs vs) : RelL F (Mine.slice xs lo hi) (Mine.slice vs lo hi) := by
 unfold Mine.slice
 rw [rl.length]
 exact (rl.take _).drop _
theorem aJ4 {lo hi : Option PySem.Expr} {m n : Option Int} (h1 : Ev G K ρ σ l x) (h2 : EvO G K ρ σ lo m) (h3 : EvO G K ρ σ hi n) (hl : xs.length ≤ sizeLine) (hx : ∀ A env F s v, EOk G K A env ρ σ F s → Rel F x v → ∃ b vs, v = .ref b ∧ s.heap.IsList b (List.toArray vs) ∧ RelL F xs vs) : Ev G K ρ σ (.Subscript l (.Slice lo hi none q) p) (.lst (slice xs m n)) :=
 fun A env F₀ s E k => Subscript_ (h1.bind k fun v F₁ s₁ S₁ r₁ k₁ => wpAny_Slice (h2 A env F₁ s₁ E _ k₁ fun vl F₂ s₂ S₂ pl k₂ => h3 A env F₂ s₂ E _ k₂ fun vu F₃ s₃ S₃ pu k₃ => wpAny_evalPart_none (by
  have S₄ : St G.x N0 F₃ s₃ F₃ { s₃ with heap := s₃.heap.push { cls := .type "slice", data := .fields #[vl, vu, .none] } } := St.grow k₃.rm.sub fun _ _ e => Heap.get?_push_of_some _ e
  have k₄ := k₃.step S₄
  obtain ⟨b, vs, rfl, hb, rl⟩ := hx A env F₃ _ v k₄ ((r₁.mono S₂.up).mono S₃.up)
  refine tail_any (ops := [.ref s₃.heap.objs.size, .ref b]) hb.typeIs slot_list_getitem.lookup ?_ rfl
  refine E3 (((S₁.trans S₂).trans S₃).trans S₄) (wpAny_getItem_list_slice hb ⟨_, Heap.get?_push_size _ rfl, rfl, rfl⟩ pl pu .none (by simp) ?_ (by rw [List.size_toArray, rl.length]; exact hl))
  rw [aH3]
  exact Q1 k₄.rm (z7 (slice vs m n) 0) s₃.toks ⟨_, _, rfl, ⟨0, Fz.add_self⟩, rl.slice.mono (ae0 k₄.rm)⟩ rfl)))
theorem bh7 (i j m : Nat) {n₁ n₂ n₃ : Str} {kk : Nat} {q₁ q₂ q₃ : Pos} (hx : w0 K i n₁ = true := by decide +kernel) (hy : w0 K j n₂ = true := by decide +kernel) (hz : w0 K m n₃ = true := by decide +kernel) : Asg G K (.Tuple [.Name n₁ q₁, .Name n₂ q₂, .Name n₃ q₃] kk p) (.tup [x, y, z]) ρ (((ρ.set i x).set j y).set m z) := by
 rintro A env σ F s E _ R k ⟨a, _, rfl, ⟨n', e⟩, v, _, rfl, r1, w, _, rfl, r2, u, _, rfl, r3, rfl⟩ h
 refine wpAny_assign_Tuple k.e.rm.handled ⟨_, k.e.rm.sub _ _ e, rfl, n', rfl⟩ rfl rfl fun h₁ hs => ?_
 have hg : ∀ b o, s.heap.get? b = some o → h₁.get? b = some o := fun b o e => hs b o (Nat.ne_of_lt (Heap.lt_size e)) e
 have S : St G.x N0 F s F { s with heap := h₁, toks := s.toks } := .grow k.e.rm.sub hg
 refine wpAny_assignInOrder_more (wpAny_assign_Name (A5 (k.step S) hx r1 fun h₂ t₂ k₂ L₂ hk₂ => ?_))
 refine wpAny_assignInOrder_more (wpAny_assign_Name (A5 k₂ hy r2 fun h₃ t₃ k₃ L₃ hk₃ => ?_))
 refine wpAny_assignInOrder_more (wpAny_assign_Name (A5 k₃ hz r3 fun h₄ t₄ k₄ L₄ hk₄ => ?_))
 exact wpAny_pure (h h₄ t₄ k₄ (((S.lk.trans L₂).trans L₃).trans L₄) fun b o hb e => hk₄ b o hb (hk₃ b o hb (hk₂ b o hb (hg b o e))))
theorem bl4 {ρ' : List V} {ts : List PySem.Expr} {kk : Nat} (h1 : Ev G K ρ σ e x) (ha : Asg G K (.Tuple ts kk q) x ρ ρ') (h2 : WS G K ss ρ' σ Q) (hs : ∀ env, env.scope = K.sc → swapsWithSole [.Tuple ts kk q] e p.line env = pure false := by intros; rfl) (hw : ∀ env, swappedStores [.Tuple ts kk q] e env = pure none := by intros; rfl) : WS G K (.Assign [.Tuple ts kk q] e p :: ss) ρ σ Q :=
 w4 fun A env F s E k => Assign_Tuple (h1.bind k.e fun v F₁ s₁ S r k₁ => ha A env σ F₁ s₁ E v _ (k.step S) r fun h' t k₂ L _ => ⟨.next, ρ', σ, F₁, trivial, k₂, S.lk.trans L, h2⟩) (hs env k.e.sc) (hw env)
end
section
variable {G : Gl} {K : Sx} {A : Around} {env : Env} {ρ : List V} {σ : Ow} {F : Fz} {s : Shared} {E : Value → Shared → Prop} {Q : KS} {e l m r : PySem.Expr} {es : List PySem.Expr} {x y z w : V} {p q q' pc : Pos} {ss : List Stmt} {xs ys : List V} {b c : Bool} {f g : Str}
mutual
inductive Tn : V → Prop
 | none : Tn .none
 | int (i : Int) : Tn (.int i)
 | str (a : List Nat) : Tn (.str a)
 | tup {xs : List V} : TnL xs → Tn (.tup xs)
inductive TnL : List V → Prop
 | nil : TnL []
 | cons {x : V} {xs : List V} : Tn x → TnL xs → TnL (x :: xs)
end
mutual
theorem Tn.rel {F F' : Fz} (h : ∀ a vs n, F a = some (an9 vs n) → F' a = some (an9 vs n)) : ∀ {x : V} {v : Value}, Tn x → Rel F x v → Rel F' x v
 | _, _, .none, r => r
 | _, _, .int _, r => r
 | _, _, .str _, r => r
 | _, _, .tup q, r => r.imp fun _ r => r.imp fun _ r => ⟨r.1, r.2.1.imp fun _ => h _ _ _, TnL.rel h q r.2.2⟩
theorem TnL.rel {F F' : Fz} (h : ∀ a vs n, F a = some (an9 vs n) → F' a = some (an9 vs n)) : ∀ {xs : List V} {vs : List Value}, TnL xs → RelL F xs vs → RelL F' xs vs
 | _, _, .nil, r => r
 | _, _, .cons a b, r => r.imp fun _ r => r.imp fun _ r => ⟨r.1, Tn.rel h a r.2.1, TnL.rel h b r.2.2⟩
end
end
end Mine
namespace Mine
open PySem PyProof.Rows PySem.W PySem.SeqAt
section
variable {G : Gl}
end
end Mine
namespace Mine
open PySem PyProof.Rows PySem.W
def OwnAt (h : Heap) (v : Value) : Prop := ∃ A o cd m, v = .ref A ∧ h.get? A = some o ∧ o.data = .cls cd ∧ h.Ns cd.ns m ∧ m "__class__" = none
def ClsP (mg : Str → Option Value) (h : Heap) (x : Str) : Prop := ∃ C o cd, mg x = some (.ref C) ∧ h.get? C = some o ∧ o.data = .cls cd ∧ cd.mro.drop 2 = vbm ∧ ∀ v ∈ cd.mro.take 2, OwnAt h v
theorem bn6 {s : Shared} {v : Value} (h : bz2 s v = true) : OwnAt s.heap v := by
 unfold bz2 at h
 split at h
 ·split at h
  ·rename_i o ho
   split at h
   ·rename_i cd hd
    rw [Bool.and_eq_true] at h
    exact ⟨_, o, cd, _, rfl, ho, hd, .of_isNs h.1, Option.isNone_iff_eq_none.mp h.2⟩
   ·cases h
  ·cases h
 ·cases h
theorem br4 {s : Shared} {x : Str} (h : bg3 s x = true) : ClsP (s.heap.nsMap mainGlobals) s.heap x := by
 unfold bg3 at h
 split at h
 ·rename_i C hc
  split at h
  ·rename_i o ho
   split at h
   ·rename_i cd hd
    rw [Bool.and_eq_true] at h
    exact ⟨C, o, cd, hc, ho, hd, eq_of_beq h.1, fun v hv => bn6 (List.all_eq_true.mp h.2 v hv)⟩
   ·cases h
  ·cases h
 ·cases h
theorem OwnAt.keeps {h h' : Heap} {v : Value} (x : OwnAt h v) (k : ∀ b o, h.get? b = some o → h'.get? b = some o) : OwnAt h' v :=
 x.imp fun _ q => q.imp fun _ q => q.imp fun _ q => q.imp fun _ q => ⟨q.1, k _ _ q.2.1, q.2.2.1, q.2.2.2.1.keeps k, q.2.2.2.2⟩
theorem ClsP.keeps {x : Str} (mg : Str → Option Value) (h h' : Heap) (q : ClsP mg h x) (k : ∀ b o, h.get? b = some o → h'.get? b = some o) : ClsP mg h' x :=
 q.imp fun _ q => q.imp fun _ q => q.imp fun _ q => ⟨q.1, k _ _ q.2.1, q.2.2.1, q.2.2.2.1, fun v hv => (q.2.2.2.2 v hv).keeps k⟩
section
variable {M : Model} {prog : Program} {w : World} {A : Around} {E : Value → Shared → Prop} {h : Heap} {g : Array GenState} {d : Drawn} {t : Nat} {os : OsState} {a : Addr} {o : Obj}
 {nm q : Str} {C N : Addr} {bs bm : List Value} {hdct : Bool} {sn : List Str} {sub : List Value} {ab : Bool} {col : Option Bool} {dd : Option Addr} {k0 k1 k2 k3 k5 : Option Value} {newId : String}
theorem bx0 {n : Str} {y : Option Value} {tl : List Value} {Q : Option Value → Shared → Prop} : ∀ (own : List Value), (∀ v ∈ own, ∃ A o cd m, v = .ref A ∧ h.get? A = some o ∧ o.data = .cls cd ∧ h.Ns cd.ns m ∧ m n = none) → lookupAlong tl n = pure y → Q y ⟨h, g, d, t, os⟩ → wpAny M A (lookupAlong (own ++ tl) n) Q E ⟨h, g, d, t, os⟩
 | [], _, e, hq => by show wpAny M A (lookupAlong tl n) Q E _; rw [e]; exact wpAny_pure hq
 | v :: own, hv, e, hq => by
  obtain ⟨A', ⟨c0, dd, dt, sl⟩, cd, m, rfl, h1, h2, h3, h4⟩ := hv v (List.mem_cons_self ..)
  cases h2
  show wpAny M A (lookupAlong (.ref A' :: (own ++ tl)) n) Q E _
  rw [lookupAlong_cons]
  refine wpAny_bind (wpAny_classOwn_cls h1 h3 ?_)
  rw [h4]
  exact bx0 own (fun v hv' => hv v (List.mem_cons_of_mem _ hv')) e hq
theorem aI1 {Q : Option Value → Shared → Prop} (hC : h.get? C = some (excClassObj nm q C N bs bm hdct sn sub ab col dd k0 k1 k2 k3 k5 newId)) (h2 : (Value.ref C :: bm).drop 2 = vbm) (ho : ∀ v ∈ (Value.ref C :: bm).take 2, OwnAt h v)
  (hq : Q (some (.builtin "object.__class__")) ⟨h, g, d, t, os⟩) : wpAny M A (typeLookup (.ref C) "__class__") Q E ⟨h, g, d, t, os⟩ := by
 have hB : typeLookup (.type "ValueError") "__class__" = pure (some (.builtin "object.__class__")) := by rw [typeLookup_type, builtinLookup_eq_fast]; kernel_rfl
 have hrest : lookupAlong vbm "__class__" = pure (some (.builtin "object.__class__")) := by rw [typeLookup_eq, (PySem.F.attrBase_ValueError).mro] at hB; exact hB
 rw [typeLookup_eq]
 refine wpAny_bind (wpAny_mroOf_exc hC ?_)
 rw [← List.take_append_drop 2 (Value.ref C :: bm), h2]
 exact bx0 _ ho hrest hq
theorem bp5 {R : Result → Shared → Prop} (hC : h.get? C = some (excClassObj nm q C N bs bm hdct sn sub ab col dd k0 k1 k2 k3 k5 newId)) (hob : (Value.ref C :: bm).contains (.type "object") = true)
  (hx : h.get? a = some o) (hc : o.cls = .ref C) (hq : R (.ok (.ret (.ref C))) ⟨h, g, d, t, os⟩) :
  codeAny (model prog w) A (.call (.builtin "getset_descriptor.__get__") ⟨[.builtin "object.__class__", .ref a, .ref C], []⟩) R ⟨h, g, d, t, os⟩ := by
 have hT5 : (⟨h, g, d, t, os⟩ : Shared).TypeIs (.builtin "object.__class__") "getset_descriptor" := F.typeOf_object_class
 have hcB : (Value.ref C :: bm).contains (.type (".".intercalate ("object.__class__".cutAt '.').dropLast)) = true := by rw [F.owner_object_class]; exact hob
 refine codeAny_call_builtin F.slot_gs_get.plain F.entry_gs_get (F.slot_gs_get.check _ _ _ _ _ _ _ _ hT5 (F.args_gs_get _ _ _) ?_)
 repeat (any_goals (first | assumption | (with_reducible refine wpAny_loadPart_at hx ?_; rw [hc]) | (with_reducible refine wpAny_isSubtype_exc hC ?_; rw [hcB]) | wp_step))
 refine ⟨Code.quiet_builtin _ (by decide +kernel), codeAny_builtin F.entry_object_class ?_⟩
 repeat (any_goals (first | assumption | (with_reducible refine wpAny_loadPart_at hx ?_; rw [hc]) | wp_step))
theorem aS2 {tk : Tok} {Q : Fin → Shared → Prop} (hC : h.get? C = some (excClassObj nm q C N bs bm hdct sn sub ab col dd k0 k1 k2 k3 k5 newId)) (hob : (Value.ref C :: bm).contains (.type "object") = true)
  (h2 : (Value.ref C :: bm).drop 2 = vbm) (ho : ∀ v ∈ (Value.ref C :: bm).take 2, OwnAt h v) (hx : h.get? a = some o) (hc : o.cls = .ref C) (hq : Q (.done (.ret (.ref C))) ⟨h, g, d, t, os⟩) :
  wpAny (model prog w) A (Builtin.«object.__getattribute__» ⟨[.ref a, .str "__class__" tk], []⟩) Q E ⟨h, g, d, t, os⟩ := by
 have hT5 : (⟨h, g, d, t, os⟩ : Shared).TypeIs (.builtin "object.__class__") "getset_descriptor" := F.typeOf_object_class
 have f5 := F.typeOf_object_class
 have f6 := F.slot_gs_get.lookup
 have f7 := F.slot_gs_set.lookup
 repeat (any_goals (first | assumption | (with_reducible refine wpAny_loadPart_at hx ?_; rw [hc]) | with_reducible refine aI1 hC h2 ho ?_ | wp_step))
 refine bp5 hC hob hx hc ?_
 repeat (any_goals (first | assumption | wp_step))
theorem bz9 {mN : Str → Option Value} {tk : Tok} {Q : Value → Shared → Prop} (hC : h.get? C = some (excClassObj nm q C N bs bm hdct sn sub ab col dd k0 k1 k2 k3 k5 newId)) (hN : h.Ns N mN) (hmN : ∀ n ∈ quietNames, mN n = none) (T : OwnTailQ h vbm bm) (hob : (Value.ref C :: bm).contains (.type "object") = true)
  (h2 : (Value.ref C :: bm).drop 2 = vbm) (ho : ∀ v ∈ (Value.ref C :: bm).take 2, OwnAt h v) (hx : h.get? a = some o) (hc : o.cls = .ref C) (hq : Q (.ref C) ⟨h, g, d, t, os⟩) :
  wpAny (model prog w) A (getAttrBy (.ref a) (.str "__class__" tk) false) Q E ⟨h, g, d, t, os⟩ := by
 have FB := PySem.F.attrBase_ValueError
 have f3 := FB.ga.bind (.ref a)
 have hx2 : (Value.builtin "BaseException.__getattribute__" == Value.builtin "object.__getattribute__") = false := by decide +kernel
 have hx1 : (onTheHeap (Value.ref C) && Value.builtin "BaseException.__getattribute__" == Value.builtin "object.__getattribute__") = false := by rw [hx2]; rfl
 have hm1 : ("__getattribute__" : Str) ∈ quietNames := .tail _ (.head _)
 have hm2 : ("__getattr__" : Str) ∈ quietNames := .tail _ (.tail _ (.head _))
 repeat (any_goals (first | assumption | (with_reducible refine wpAny_loadPart_at hx ?_; rw [hc]) | with_reducible refine wpAny_typeLookup_tailQ hm1 hC hN hmN T FB.mro FB.ga.lookup ?_ | with_reducible refine wpAny_typeLookup_tailQ hm2 hC hN hmN T FB.mro FB.noGetattr ?_ | wp_step))
 refine codeAny_call_builtin FB.ga.plain F.entry_bexc_ga (wpAny_check_ga_own FB hC T hx hc (aS2 hC hob h2 ho hx hc ?_))
 repeat (any_goals (first | assumption | wp_step))
theorem be0 {mN : Str → Option Value} {Q : Option Value → Shared → Prop} (hC : h.get? C = some (excClassObj nm q C N bs bm hdct sn sub ab col dd k0 k1 k2 k3 k5 newId)) (hN : h.Ns N mN) (hmN : ∀ n ∈ quietNames, mN n = none) (T : OwnTailQ h vbm bm) (hob : (Value.ref C :: bm).contains (.type "object") = true)
  (h2 : (Value.ref C :: bm).drop 2 = vbm) (ho : ∀ v ∈ (Value.ref C :: bm).take 2, OwnAt h v) (hx : h.get? a = some o) (hc : o.cls = .ref C) (hq : Q (some (.ref C)) ⟨h, g, d, t + 1, os⟩) : wpAny (model prog w) A (getAttr? (.ref a) "__class__") Q E ⟨h, g, d, t, os⟩ := by
 unfold getAttr? getAttrBy?
 repeat (any_goals (first | assumption | with_reducible apply bz9 hC hN hmN T hob h2 ho hx hc | wp_step))
variable {nm' q' : Str} {C' N' : Addr} {bs' bm' : List Value} {hdct' : Bool} {sn' : List Str} {sub' : List Value} {ab' : Bool} {col' : Option Bool} {dd' : Option Addr} {l0 l1 l2 l3 l5 : Option Value} {newId' : String}
theorem aR6 {mN : Str → Option Value} {dep : Int} {tk : Tok} {Q : Fin → Shared → Prop} (hC : h.get? C = some (excClassObj nm q C N bs bm hdct sn sub ab col dd k0 k1 k2 k3 k5 newId)) (hC' : h.get? C' = some (excClassObj nm' q' C' N' bs' bm' hdct' sn' sub' ab' col' dd' l0 l1 l2 l3 l5 newId')) (hN : h.Ns N mN) (hmN : ∀ n ∈ quietNames, mN n = none) (T : OwnTailQ h vbm bm) (hob : (Value.ref C :: bm).contains (.type "object") = true)
  (h2 : (Value.ref C :: bm).drop 2 = vbm) (ho : ∀ v ∈ (Value.ref C :: bm).take 2, OwnAt h v) (hno : (Value.ref C :: bm).contains (.ref C') = false) (hx : h.get? a = some o) (hc : o.cls = .ref C) (hq : Q (.done (.ret (.bool false))) ⟨h, g, d, t + 1, os⟩) :
  wpAny (model prog w) A (Builtin.«isinstance.nested» ⟨[.ref a, .ref C', .int dep tk], []⟩) Q E ⟨h, g, d, t, os⟩ := by
 have hne : (Value.ref C == Value.ref C') = false := by
  rw [List.contains_cons, Bool.or_eq_false_iff] at hno
  rw [Bool.eq_false_iff] at hno ⊢
  exact fun e => hno.1 (by rw [beq_iff_eq] at e ⊢; exact e.symm)
 repeat (any_goals (first | assumption | (with_reducible refine wpAny_loadPart_at hx ?_; rw [hc]) | (with_reducible refine wpAny_isSubtype_exc hC ?_; rw [hno]) | with_reducible refine wpAny_loadPart_at hC' ?_ | with_reducible refine wpAny_loadPart_at hC ?_ | rw [hne] | with_reducible apply be0 hC hN hmN T hob h2 ho hx hc | wp_step))
end
section
variable {G : Gl} {x : Str} {C : Addr}
theorem bC8 (X : XC G x C) (P : ClsP G.mg G.B x) {t : Str} {T : Addr} (XT : XC G t T) (hno : O7 G.mg G.B x t false) {e : Addr} : Answers (fun s => (∀ a o, G.B.get? a = some o → s.heap.get? a = some o) ∧ ∃ oe, s.heap.get? e = some oe ∧ oe.cls = .ref C) (.ref e) (.ref T) false := by
 rintro dep tk prog w A R ⟨h, g, d, tt, os⟩ ⟨⟨hB, oe, he, hcls⟩, hq⟩
 obtain ⟨xq5, hC, hN, hmN, Tl⟩ := ax8 X
 obtain ⟨xq6, hC', _, _, _⟩ := ax8 XT
 obtain ⟨C₁, o, cd, h1, h2, h3, h4, h5⟩ := P
 cases X.bound.symm.trans h1
 cases hC.symm.trans h2
 cases h3
 obtain ⟨C₂, T₂, o₂, cd₂, p1, p2, p3, p4, p5⟩ := hno
 cases X.bound.symm.trans p1
 cases XT.bound.symm.trans p2
 cases hC.symm.trans p3
 cases p4
 have hob : (Value.ref C :: xq5.bm).contains (.type "object") = true := by rw [List.contains_cons, Tl.tail.hasType (show vbm.contains (.type "object") = true by decide +kernel), Bool.or_true]
 exact aR6 (hB _ _ hC) (hB _ _ hC') (hN.keeps hB) hmN (Tl.keeps hB) hob h4 (fun v hv => (h5 v hv).keeps hB) p5 he hcls (hq _)
end
section
variable {G : Gl} {K : Sx} {n x : Str} {C : Addr} {z : V}
end
end Mine
namespace Mine
open PySem PySem.W PyProof.Rows
def trP (C dx : Addr) : Addr → Obj → Addr → Obj → Prop := fun a o _ _ => o.cls = .ref C ∧ o.dict = some dx ∧ dx ≠ a ∧ ∀ c, o.data ≠ .cls c
noncomputable abbrev C3 (C dx : Addr) : V := .obj (trP C dx)
structure TrC (G : Gl) (C N : Addr) (mN : Str → Option Value) : Prop where
 bound : G.mg "Trail" = some (.ref C)
 cls : ClsAt G.B C N mN
 q1 : mN "__setattr__" = none
 q2 : mN "__getattribute__" = none
 q3 : mN "__getattr__" = none
 q4 : mN "kept" = none
 q5 : mN "past" = none
theorem au5 : typeLookup (.type "object") "kept" = pure none := by rw [typeLookup_type, builtinLookup_eq_fast]; kernel_rfl
theorem aN7 : typeLookup (.type "object") "past" = pure none := by rw [typeLookup_type, builtinLookup_eq_fast]; kernel_rfl
theorem bp8 {v : Value} (h : ∀ i, v ≠ .builtin i) : handedOut v = pure v := by
 cases v <;> first | rfl | exact absurd rfl (h _)
section
variable {G : Gl} {K : Sx} {A : Around} {env : Env} {ρ : List V} {σ σ' : Ow} {F F₁ F' : Fz} {s s₁ s' : Shared} {E : Value → Shared → Prop} {Q : KS} {e : PySem.Expr} {es : List PySem.Expr} {ss : List Stmt} {x y z kk : V} {xs ys : List V} {p q q' ap : Pos} {w : Bool} {C N dx b : Addr} {mN : Str → Option Value}
theorem EOk.inst (k₀ : EOk G K A env ρ σ F s) (hσ : σ dx = some (.tr w kk b)) {v : Value} (r : Rel F (C3 C dx) v) : ∃ x mA vk, v = .ref x ∧ s.heap.Inst x C mA ∧ mA "kept" = some vk ∧ (∀ i, vk ≠ .builtin i) ∧ Rel F kk vk ∧ mA "past" = some (.ref b) ∧ ∀ n : Str, n ≠ "kept" → n ≠ "past" → mA n = none := by
 obtain ⟨x, o, d, od, rfl, hx, hd, hc, hdict, hne, hnc⟩ := r
 obtain ⟨hF, oo, ho, es, ep, vk, e1, e2, e3, e4, e5, e6, e7, rk⟩ := k₀.own dx _ hσ
 exact ⟨x, nsFind es, vk, rfl, ⟨o, k₀.rm.sub _ _ hx, hc, hnc, .inr ⟨dx, hdict, hne, oo, es, ep, ho, e1, e2, e3, fun _ => rfl⟩⟩, e4, e7, rk, e5, e6⟩
theorem w5 {n : Str} (T : TrC G C N mN) (hσ : σ dx = some (.tr w kk b)) (h1 : Ev G K ρ σ (.Name n q) (C3 C dx)) : Ev G K ρ σ (.Attribute (.Name n q) "kept" p) kk := fun A env F s E k =>
 Attribute_any_ (h1.bind k fun v F₁ s₁ S₁ r₁ k₁ => by
  obtain ⟨x, mA, vk, rfl, I, h1, h2, rk, _, _⟩ := k₁.inst hσ r₁
  have X := T.cls.keeps k₁.rm.in
  obtain ⟨xq9, hC⟩ := aA6 X
  have fin : PV G.x F s kk vk { s₁ with toks := s₁.toks + 1 } := PV.from S₁ (s7 k₁.rm _ rk)
  obtain ⟨hh, g, d, t, os⟩ := s₁
  exact load_attr hC X.ns T.q2 T.q4 au5 I h1 (bp8 h2) fin)
theorem aa3 {n : Str} (T : TrC G C N mN) (hσ : σ dx = some (.tr w kk b)) (h1 : Ev G K ρ σ (.Name n q) (C3 C dx)) : Ev G K ρ σ (.Attribute (.Name n q) "past" p) (.ref b) := fun A env F s E k =>
 Attribute_any_ (h1.bind k fun v F₁ s₁ S₁ r₁ k₁ => by
  obtain ⟨x, mA, vk, rfl, I, _, _, _, h1, _⟩ := k₁.inst hσ r₁
  have X := T.cls.keeps k₁.rm.in
  obtain ⟨xq10, hC⟩ := aA6 X
  have fin : PV G.x F s (.ref b) (.ref b) { s₁ with toks := s₁.toks + 1 } := PV.from S₁ (s7 k₁.rm _ rfl)
  obtain ⟨hh, g, d, t, os⟩ := s₁
  exact load_attr hC X.ns T.q2 T.q5 aN7 I h1 rfl fin)
theorem FOk.putT {h' : Heap} {t : Nat} {o' : Obj} {k' : V} {b' : Addr} (k : FOk G K A env ρ σ F s) (hd : σ dx = some (.tr true kk b)) (hs : Heap.ExtBut dx s.heap h') (ho : h'.get? dx = some o') (r : OcR G.x F o' (.tr true k' b')) :
  FOk G K A env ρ (σ.put dx (.tr true k' b')) F { s with heap := h', toks := t } ∧ Lk G.x env σ F s (σ.put dx (.tr true k' b')) F { s with heap := h', toks := t } := by
 obtain ⟨hF, oo, hoo, _⟩ := k.e.own dx _ hd
 have hsep := k.sep dx _ hd
 refine ⟨k.other hF hs hsep.1 (hsep.2 rfl) (fun a c q => ?_) (k.setSep (hsep.imp id fun h _ => h rfl)), St.change k.e.rm.sub hF (.inl (.inr ⟨_, hd, rfl⟩)) hs ⟨o', ho, fun o _ _ _ _ => ?_⟩, fun a c q => ?_⟩
 ·by_cases h : a = dx
  ·subst h; cases (Ow.put_self ..).symm.trans q; exact ⟨hF, o', ho, r⟩
  ·exact (k.e.own a c ((Ow.put_ne _ _ h).symm.trans q)).imp id fun t => t.imp fun o t => ⟨hs a o h t.1, t.2⟩
 ·obtain ⟨es, ep, v, e1, _⟩ := r; exact ⟨es, ep, e1⟩
 ·by_cases h : a = dx
  ·exact .inl ⟨_, h ▸ hd, fun _ => rfl⟩
  ·exact .inl ⟨c, (Ow.put_ne _ _ h).symm.trans q, id⟩
theorem bH1 {o₀ o₁ : Obj} (h1 : o₁.cls = o₀.cls) (h2 : o₁.data = o₀.data) (h3 : o₁.slots = o₀.slots) (h4 : o₁.dict = o₀.dict) : o₁ = o₀ := by
 cases o₀; cases o₁; cases h1; cases h2; cases h3; cases h4; rfl
theorem aj1 {v : Value} {x : Addr} {o : Obj} {R : Unit → Shared → Prop} (T : TrC G C N mN) (k : FOk G K A env ρ σ F s) (hd : σ dx = some (.tr true kk b)) (hx : F x = some o) (hp : trP C dx x o x o) (r : Rel F y v) (hy : ∀ i, v ≠ .builtin i)
  (h : ∀ h' t, FOk G K A env ρ (σ.put dx (.tr true y b)) F { s with heap := h', toks := t } → Lk G.x env σ F s (σ.put dx (.tr true y b)) F { s with heap := h', toks := t } → R () { s with heap := h', toks := t }) : wpAny G.M A (setAttr (.ref x) "kept" v) R E s := by
 obtain ⟨x', mA, vk, e, I, m1, _, _, m2, m3⟩ := k.e.inst hd (v := .ref x) ⟨x, o, x, o, rfl, hx, hx, hp⟩
 cases e
 have hxs := k.e.rm.sub _ _ hx
 have X := T.cls.keeps k.e.rm.in
 obtain ⟨xq11, hC⟩ := aA6 X
 have hxC : x ≠ C := by
  rintro rfl
  cases hxs.symm.trans hC
  exact hp.2.2.2 _ rfl
 obtain ⟨hh, g, d, t, os⟩ := s
 refine store_attr (ns := ["kept", "past"]) PySem.F.store_object hC X.ns T.q1 T.q4 au5 hxC I (fun h' tk I' hk hsame => ?_) (fun n hn => ?_) (by decide)
 ·have hs : Heap.ExtBut dx hh h' := fun a oa ha e => by
   by_cases hax : a = x
   ·subst hax
    cases hxs.symm.trans e
    obtain ⟨o₁, e₁, g1, g2, g3, g4⟩ := hsame _ e
    rw [e₁, bH1 g1 g2 g3 ((g4 dx hp.2.1).trans hp.2.1.symm)]
   ·exact hk a oa hax (fun o₀ d' h1 h2 => by cases hxs.symm.trans h1; cases hp.2.1.symm.trans h2; exact ha) e
  obtain ⟨o₁, e₁, _, _, I₁⟩ := I'
  have hxs' := hs x o hp.2.2.1.symm hxs
  cases hxs'.symm.trans e₁
  rcases I₁ with ⟨hn, _⟩ | ⟨d', hd', _, od, es, ep, ho, f1, f2, f3, f4⟩
  ·exact nomatch hp.2.1.symm.trans hn
  ·cases hp.2.1.symm.trans hd'
   have := k.putT (t := tk) hd hs ho (k' := y) (b' := b) ⟨es, ep, v, f1, f2, f3, (f4 _).trans (if_pos rfl), (f4 _).trans ((if_neg (by decide)).trans m2), fun n n1 n2 => (f4 n).trans ((if_neg n1).trans (m3 n n1 n2)), hy, r⟩
   exact h h' tk this.1 this.2
 ·by_cases h1 : n = "kept"
  ·exact h1 ▸ List.mem_cons_self ..
  ·by_cases h2 : n = "past"
   ·exact h2 ▸ List.mem_cons_of_mem _ (List.mem_cons_self ..)
   ·exact absurd (m3 n h1 h2) hn
theorem aZ2 {n : Str} (T : TrC G C N mN) (hd : σ dx = some (.tr true kk b)) (h1 : Ev G K ρ σ e y) (hy : ∀ F v, Rel F y v → ∀ i, v ≠ .builtin i) (h2 : Ev G K ρ σ (.Name n q) (C3 C dx)) (h : WS G K ss ρ (σ.put dx (.tr true y b)) Q)
  (hsw : ∀ env, env.scope = K.sc → swapsWith e (some (.Attribute (.Name n q) "kept" q')) p.line env = pure false := by intros; rfl) : WS G K (.Assign [.Attribute (.Name n q) "kept" q'] e p :: ss) ρ σ Q :=
 w4 fun A env F s E k => plainObj_wpAny_Assign_Attribute (h1.bind k.e fun v F₁ s₁ S₁ r₁ k₁ => h2.bind k₁ fun u F₂ s₂ S₂ r₂ k₂ => by
  obtain ⟨x, o, _, _, rfl, hx, _, hp⟩ := r₂
  have S := S₁.trans S₂
  exact aj1 T (k.step S) hd hx hp (r₁.mono S₂.up) (hy _ _ r₁) fun h' t k₃ L => ⟨.next, ρ, _, F₂, trivial, k₃, S.lk.trans L, h⟩) (hsw env k.e.sc)
end
structure Mth (G : Gl) (mN : Str → Option Value) (m : Str) (f : Addr) (K : Sx) (np : Nat) (B : List Stmt) : Prop where
 bound : mN m = some (.ref f)
 isf : ∃ o, G.B.get? f = some o ∧ o.cls = .type "function"
 fn : FnO G.B f K np B
 no : typeLookup (.type "object") m = pure none
 nk : m ≠ "kept"
 np : m ≠ "past"
section
variable {G : Gl} {K K' : Sx} {A : Around} {env : Env} {ρ : List V} {σ σ' : Ow} {F F₁ F' : Fz} {s s₁ s' : Shared} {E : Value → Shared → Prop} {Q : KS} {e : PySem.Expr} {es : List PySem.Expr} {ss B : List Stmt} {x y z kk : V} {xs ys : List V} {p q q' ap pe : Pos} {w : Bool} {C N dx b f X : Addr} {mN : Str → Option Value} {m : Str} {np : Nat}
theorem Z6 {R : Value → Shared → Prop} (T : TrC G C N mN) (M : Mth G mN m f K' np B) (hσ : σ dx = some (.tr w kk b)) (h1 : Ev G K ρ σ e (C3 C dx)) (ha : EvL G K ρ σ es ys) (hn : ∀ n env t, attributeBase e n env t = t) (hl : (ap.endLine == p.line) = true) (hs : es.all f0 = true) (h8 : es.length < 8) (k : EOk G K A env ρ σ F s)
  (fin : ∀ F₂ s₂ vs, St G.x N0 F s F₂ s₂ → EOk G K A env ρ σ F₂ s₂ → RelL F₂ (C3 C dx :: ys) vs → wpAny G.M A (call (.ref f) vs) R E s₂) : wpAny G.M A (eval (.Call (.Attribute e m ap) es [] p) env) R E s := by
 rw [arm_eval_Call]
 rw [hn]
 refine wpAny_bind (h1.bind k fun v F₁ s₁ S₁ r₁ k₁ => wpAny_bind (wpAny_standAt ?_))
 rw [m6 p env hs]
 have hform : methodCallForm (es.length + ([] : List Keyword).length) (es.map fun e => (false, eval e env)) (backToKw p (keywordEach [] env)) = true := by
  show ((es.map fun e => (false, eval e env)).all (fun x => !x.1) && true && decide (es.length + 0 + 0 < 30)) = true
  rw [o8, decide_eq_true (by exact a7 h8)]; rfl
 have hpos : methodCallPos true e env ap p = pure p := by unfold methodCallPos; simp [hl]
 unfold methodCall
 rw [hform]
 obtain ⟨x, mA, vk, rfl, I, _, _, _, _, h7⟩ := k₁.inst hσ r₁
 have X := T.cls.keeps k₁.rm.in
 obtain ⟨xq12, hC⟩ := aA6 X
 obtain ⟨of, hof, hfc⟩ := M.isf
 obtain ⟨⟨of', fd, hof', hfd, _⟩, _⟩ := id M.fn
 have hin := k₁.rm.in
 have next : wpAny G.M A (callWith p (.ref f) [.ref x] (es.map fun e => (false, eval e env)) []) R E s₁ := Calls.callWith_function (l8 (o8 es env) (ha.bind k₁ fun vs F₂ s₂ S₂ r₂ k₂ => ⟨⟨k₂.rm.in _ _ hof', hfd⟩, fin F₂ s₂ (.ref x :: vs) (S₁.trans S₂) k₂ ⟨_, _, rfl, r₁.mono S₂.up, r₂⟩⟩))
 obtain ⟨hh, g, d, t, os⟩ := s₁
 exact wpAny_bind (wpAny_holding (method_of hC X.ns T.q2 T.q3 M.bound (hin _ _ hof) hfc M.no I (h7 m M.nk M.np) (wpAny_bind (wpAny_of_eq hpos next))))
theorem aH2 : ∀ a c, σ0.put dx (.tr false kk b) a = some c → c.rw = false := fun a c q => by
 by_cases h : a = dx
 ·subst h; cases (Ow.put_self ..).symm.trans q; rfl
 ·exact nS ((Ow.put_ne _ _ h).symm.trans q)
theorem aN6 (k : EOk G K A env ρ σ F s) (hσ : σ dx = some (.tr w kk b)) : ∀ a c, σ0.put dx (.tr false kk b) a = some c → F a = none ∧ ∃ o, s.heap.get? a = some o ∧ OcR G.x F o c := fun a c q => by
 by_cases h : a = dx
 ·subst h; cases (Ow.put_self ..).symm.trans q; have t := k.own a _ hσ; exact t
 ·exact nS ((Ow.put_ne _ _ h).symm.trans q)
theorem ah5 (T : TrC G C N mN) (M : Mth G mN m f K' np B) (hσ : σ dx = some (.tr w kk b)) (h1 : Ev G K ρ σ e (C3 C dx)) (ha : EvL G K ρ σ es ys) (hlen : ys.length + 1 = np) (hd : 0 < G.d) (body : WS G.dn K' B (C3 C dx :: ys ++ List.replicate (K'.ns.length - np) .unb) (σ0.put dx (.tr false kk b)) (ao1 z))
  (hn : ∀ n env t, attributeBase e n env t = t := by intros; rfl) (hl : (ap.endLine == p.line) = true := by rfl) (hs : es.all f0 = true := by rfl) (h8 : es.length < 8 := by exact Nat.lt_of_sub_eq_succ rfl) : Ev G K ρ σ (.Call (.Attribute e m ap) es [] p) z := fun A env F s E k =>
 Z6 T M hσ h1 ha hn hl hs h8 k fun F₂ s₂ vs S k₂ r => wpAny_mono (ak2 (P := (· = z)) (xs := C3 C dx :: ys) M.fn hlen hd aH2 (ag6 body fun fl ρ σ q => by cases fl; exact q.symm; exact ⟨z, q, rfl⟩) k₂.rm r (aN6 k₂ hσ)) (fun _ _ q => q.elim fun _ q => q.1 ▸ q.2.from S) fun _ _ e => e
theorem bb0 {sts : List Stmt} {fa : Addr} (FA : FnO G.B fa K np sts) (hlen : xs.length = np) (hd : 0 < G.d) (hro : ∀ a c, σ a = some c → c.rw = false) (h : WR G.dn K sts (xs ++ List.replicate (K.ns.length - np) .unb) σ X) {A : Around} {F : Fz} {s : Shared} {vs : List Value} (k : Rm G A F s) (r : RelL F xs vs) (hσ : ∀ a c, σ a = some c → F a = none ∧ ∃ o, s.heap.get? a = some o ∧ OcR G.x F o c) : wpAny G.M A (call (.ref fa) vs) (fun _ _ => False) (PE A F s X) s :=
 wpAny_call (R0 FA hlen hd k r (fun a c q => ⟨hσ a c q, fun hr => by rw [hro a c q] at hr; cases hr⟩) fun env s₁ k₁ S₁ hown _ => by
  obtain ⟨l, hl, _⟩ := k.frames
  refine wpAny_mono (h _ _ _ _ k₁) (fun _ _ q => q.elim) fun v s' q => az9 q fun e ρ₂ σ₂ F₂ s₂ F' B outer a0 h' hv H x => ?_
  cases (Around.frames_deeper hl).symm.trans H.hfr
  exact ⟨e, F', B, a0, l, hv, hl, S₁.no.then (H.l.no.trans H.S.lk).S fun b o e q => q.elim (fun q => nomatch e.symm.trans (hown b q)) fun q => q.elim fun c q => (nomatch (hro b c q.1).symm.trans q.2), (H.c.from H.l.S).from S₁, x⟩)
theorem aM9 {R : Value → Shared → Prop} (T : TrC G C N mN) (M : Mth G mN m f K' np B) (hσ : σ dx = some (.tr w kk b)) (h1 : Ev G K ρ σ e (C3 C dx)) (ha : EvL G K ρ σ es ys) (hlen : ys.length + 1 = np) (hd : 0 < G.d) (body : WR G.dn K' B (C3 C dx :: ys ++ List.replicate (K'.ns.length - np) .unb) (σ0.put dx (.tr false kk b)) X)
  (hn : ∀ n env t, attributeBase e n env t = t) (hl : (ap.endLine == p.line) = true) (hs : es.all f0 = true) (h8 : es.length < 8) (k : FOk G K A env ρ σ F s) : wpAny G.M A (eval (.Call (.Attribute e m ap) es [] p) env) R (PX G K A env σ F s X) s :=
 Z6 T M hσ h1 ha hn hl hs h8 k.e fun F₂ s₂ vs S k₂ r => wpAny_mono (bb0 (xs := C3 C dx :: ys) M.fn hlen hd aH2 body k₂.rm r (aN6 k₂ hσ)) (fun _ _ q => q.elim) fun _ _ q => (ak0 (k.step S) q).from S.lk
theorem aL9 (T : TrC G C N mN) (M : Mth G mN m f K' np B) (hσ : σ dx = some (.tr w kk b)) (h1 : Ev G K ρ σ e (C3 C dx)) (ha : EvL G K ρ σ es ys) (hlen : ys.length + 1 = np) (hd : 0 < G.d) (body : WR G.dn K' B (C3 C dx :: ys ++ List.replicate (K'.ns.length - np) .unb) (σ0.put dx (.tr false kk b)) X)
  (hn : ∀ n env t, attributeBase e n env t = t := by intros; rfl) (hl : (ap.endLine == p.line) = true := by rfl) (hs : es.all f0 = true := by rfl) (h8 : es.length < 8 := by exact Nat.lt_of_sub_eq_succ rfl) : WR G K (.Expr (.Call (.Attribute e m ap) es [] p) pe :: ss) ρ σ X :=
 K0 fun A env F s k => wpAny_Expr_any (aM9 T M hσ h1 ha hlen hd body hn hl hs h8 k) (by unfold interactive; rw [k.e.kind]; rfl) rfl
theorem S8 {n : Str} (T : TrC G C N mN) (M : Mth G mN m f K' np B) (hσ : σ dx = some (.tr w kk b)) (h1 : Ev G K ρ σ e (C3 C dx)) (ha : EvL G K ρ σ es ys) (hlen : ys.length + 1 = np) (hd : 0 < G.d) (body : WR G.dn K' B (C3 C dx :: ys ++ List.replicate (K'.ns.length - np) .unb) (σ0.put dx (.tr false kk b)) X)
  (hn : ∀ n env t, attributeBase e n env t = t := by intros; rfl) (hl : (ap.endLine == p.line) = true := by rfl) (hs : es.all f0 = true := by rfl) (h8 : es.length < 8 := by exact Nat.lt_of_sub_eq_succ rfl) : WR G K (.Assign [.Name n q] (.Call (.Attribute e m ap) es [] p) pe :: ss) ρ σ X :=
 K0 fun A env F s k => wpAny_Assign_Name (aM9 T M hσ h1 ha hlen hd body hn hl hs h8 k) rfl
theorem FOk.after {D : Addr → Prop} (k : FOk G K A env ρ σ F s) (S : St G.x D F s F' s') (hD : ∀ a, D a → ∃ c, σ a = some c ∧ c.rw = true) (hout : ∀ a, ¬ D a → σ' a = σ a) (hin : ∀ a c, D a → σ' a = some c → F' a = none ∧ ∃ o, s'.heap.get? a = some o ∧ OcR G.x F' o c) : FOk G K A env ρ σ' F' s' ∧ Lk G.x env σ F s σ' F' s' := by
 have own : ∀ a, D a → ¬ Own env a := fun a h => (hD a h).elim fun c t => (k.sep a c t.1).1
 have upO : ∀ b o, ¬ D b → s.heap.get? b = some o → ∃ o', s'.heap.get? b = some o' ∧ KeepO G.x o o' := fun b o hb e => S.keepO b o e hb
 have up : ∀ b o, ¬ D b → s.heap.get? b = some o → (∀ es n, o.data ≠ .dict es n) → s'.heap.get? b = some o := fun b o hb e hd => S.keep b o e hb hd
 refine ⟨⟨⟨k.e.rm.step S, k.e.sc, k.e.kind, k.e.globals, k.e.builtins, fun a c q => ?_,
   ⟨k.e.loc.len, k.e.loc.vars.elim fun _ q => (U4 q.1).elim fun _ e => S.out k.e.loc.out e, k.e.loc.vars.imp fun m r => ⟨U1 r.1 fun o e => upO _ o (fun h => own _ h (.inl rfl)) e, fun i x v hx hv => ⟨fun hk => ((r.2 i x v hx hv).1 hk).mono S.up, fun hk => ((r.2 i x v hx hv).2 hk).imp fun c u => u.imp fun ov u =>
    ⟨u.1, u.2.1.imp fun oc w => ⟨up _ _ (fun h => own _ h (.inr ⟨x, mem_of_lookup u.1⟩)) w.1 (fun _ _ e => nomatch w.2.symm.trans e), w.2⟩, u.2.2.1.mono S.up, u.2.1.elim fun _ w => S.out u.2.2.2 w.1⟩⟩⟩⟩⟩,
   k.top, k.apart, k.nodup, fun x c hc => (k.own x c hc).elim fun h1 h2 => ⟨h1.imp fun _ h => h.imp fun _ h => ⟨up _ _ (fun hd => own _ hd (.inr ⟨x, hc⟩)) h.1 (fun _ _ e => nomatch h.2.symm.trans e), h.2⟩, h1.elim fun _ h => h.elim fun _ h => S.out h2 h.1⟩, fun a c q => ?_⟩, S.weaken fun b o _ q => .inr (hD b q), fun a c q => ?_⟩
 ·by_cases h : D a
  ·exact hin a c h q
  ·rw [hout a h] at q
   exact (k.e.own a c q).elim fun h1 h2 => h2.elim fun o h2 => ⟨S.out h1 h2.1, (upO a o h h2.1).imp fun _ t => ⟨t.1, (h2.2.keep t.2).mono S.up⟩⟩
 ·by_cases h : D a
  ·exact (hD a h).elim fun c' t => (k.sep a c' t.1).imp id fun u _ => u t.2
  ·rw [hout a h] at q; exact k.sep a c q
 ·by_cases h : D a
  ·exact .inl ((hD a h).imp fun _ t => ⟨t.1, fun _ => t.2⟩)
  ·rw [hout a h] at q; exact .inl ⟨c, q, id⟩
def EvM (G : Gl) (K : Sx) (ρ : List V) (σ : Ow) (e : PySem.Expr) (R : V → Ow → Prop) : Prop :=
 ∀ A env F s E, FOk G K A env ρ σ F s → wpAny G.M A (eval e env) (fun v s' => ∃ x σ' F', Rel F' x v ∧ FOk G K A env ρ σ' F' s' ∧ Lk G.x env σ F s σ' F' s' ∧ R x σ') E s
def trQ (dx b : Addr) (R : V → V → List V → Prop) : KS := fun fl _ σ => ∃ k ps, σ dx = some (.tr true k b) ∧ σ b = some (.lst ps) ∧ match fl with | .ret x => R x k ps | .next => R .none k ps
noncomputable def σT (σ : Ow) (dx b : Addr) (k : V) (ps : List V) : Ow := (σ.put dx (.tr true k b)).set b ps
theorem s8 {k : V} {ps : List V} (h : dx ≠ b) : σT σ dx b k ps dx = some (.tr true k b) := (Ow.set_ne _ _ h).trans (Ow.put_self ..)
theorem G1 {k : V} {ps : List V} : σT σ dx b k ps b = some (.lst ps) := Ow.set_self ..
theorem M5 {a : Addr} {k : V} {ps : List V} (h1 : a ≠ dx) (h2 : a ≠ b) : σT σ dx b k ps a = σ a := (Ow.set_ne _ _ h2).trans (Ow.put_ne _ _ h1)
theorem aP5 {fa : Addr} {ps : List V} {R : V → V → List V → Prop} {vs : List Value} (FA : FnO G.B fa K' np B) (hlen : xs.length = np) (hG : 0 < G.d) (hd : σ dx = some (.tr true kk b)) (hb : σ b = some (.lst ps)) (hne : dx ≠ b) (body : WS G.dn K' B (xs ++ List.replicate (K'.ns.length - np) .unb) (σT σ0 dx b kk ps) (trQ dx b R)) (k : FOk G K A env ρ σ F s) (r : RelL F xs vs) :
  wpAny G.M A (call (.ref fa) vs) (fun v s' => ∃ x σ' F', Rel F' x v ∧ FOk G K A env ρ σ' F' s' ∧ Lk G.x env σ F s σ' F' s' ∧ ∃ k' ps', R x k' ps' ∧ σ' = σT σ dx b k' ps') E s := by
 have cases2 : ∀ {a : Addr} {c : Oc}, σT σ0 dx b kk ps a = some c → (a = dx ∧ c = .tr true kk b) ∨ (a = b ∧ c = .lst ps) := fun {a c} q => by
  by_cases h1 : a = dx
  ·subst h1; exact .inl ⟨rfl, Option.some.inj (q.symm.trans (s8 hne))⟩
  ·by_cases h2 : a = b
   ·subst h2; exact .inr ⟨rfl, Option.some.inj (q.symm.trans G1)⟩
   ·exact nS ((M5 h1 h2).symm.trans q)
 refine wpAny_call (L4 FA hlen hG body k.e.rm r (fun a c q => ?_) fun fl v σ₃ F' s' hf own S d q => ?_)
 ·rcases cases2 q with ⟨rfl, rfl⟩ | ⟨rfl, rfl⟩
  ·exact ⟨k.e.own _ _ hd, (k.sep _ _ hd).2⟩
  ·exact ⟨k.e.own _ _ hb, (k.sep _ _ hb).2⟩
 ·obtain ⟨ρ', k', ps', h1, h2, h3⟩ := q
  have S' : St G.x (fun a => a = dx ∨ a = b) F s F' s' := S.weaken fun a o _ t => t.elim fun c t => (cases2 t.1).imp (·.1) (·.1)
  have FA := k.after (σ' := σT σ dx b k' ps') S' (fun a h => h.elim (fun h => ⟨_, h ▸ hd, rfl⟩) fun h => ⟨_, h ▸ hb, rfl⟩) (fun a h => M5 (fun e => h (.inl e)) fun e => h (.inr e)) fun a c h q => by
   rcases h with rfl | rfl
   ·cases (s8 hne).symm.trans q; exact own _ _ h1
   ·cases G1.symm.trans q; exact own _ _ h2
  rcases hf with hf | ⟨rfl, rfl⟩
  ·cases fl with
   | next => exact hf.elim
   | ret x => exact ⟨x, _, F', hf, FA.1, FA.2, k', ps', h3, rfl⟩
  ·exact ⟨.none, _, F', rfl, FA.1, FA.2, k', ps', h3, rfl⟩
theorem F4 {ps : List V} {R : V → V → List V → Prop} (T : TrC G C N mN) (M : Mth G mN m f K' np B) (hd : σ dx = some (.tr true kk b)) (hb : σ b = some (.lst ps)) (hne : dx ≠ b) (h1 : Ev G K ρ σ e (C3 C dx)) (ha : EvL G K ρ σ es ys) (hlen : ys.length + 1 = np) (hG : 0 < G.d) (body : WS G.dn K' B (C3 C dx :: ys ++ List.replicate (K'.ns.length - np) .unb) (σT σ0 dx b kk ps) (trQ dx b R))
  (hn : ∀ n env t, attributeBase e n env t = t := by intros; rfl) (hl : (ap.endLine == p.line) = true := by rfl) (hs : es.all f0 = true := by rfl) (h8 : es.length < 8 := by exact Nat.lt_of_sub_eq_succ rfl) : EvM G K ρ σ (.Call (.Attribute e m ap) es [] p) fun x σ' => ∃ k' ps', R x k' ps' ∧ σ' = σT σ dx b k' ps' := fun A env F s E k =>
 Z6 T M hd h1 ha hn hl hs h8 k.e fun F₂ s₂ vs S k₂ r => wpAny_mono (aP5 (xs := C3 C dx :: ys) M.fn hlen hG hd hb hne body (k.step S) r) (fun v s' q => by
  obtain ⟨x, σ', F', rx, k', L, hR⟩ := q
  exact ⟨x, σ', F', rx, k', S.lk.trans L, hR⟩) fun _ _ e => e
theorem Y3 {R : V → Ow → Prop} (h1 : EvM G K ρ σ e R) (h : ∀ x σ', R x σ' → WS G K ss ρ σ' Q) (hs : ∀ env, swapsWith e none p.line env = pure false := by intros; rfl) : WS G K (.Expr e p :: ss) ρ σ Q :=
 w4 fun A env F s E k => wpAny_Expr_any (wpAny_mono (h1 A env F s E k) (fun v s' q => by
  obtain ⟨x, σ', F', _, k', L, hR⟩ := q
  exact ⟨.next, ρ, σ', F', trivial, k', L, h x σ' hR⟩) fun _ _ e => e) (by unfold interactive; rw [k.e.kind]; rfl) (hs env)
end
section
variable {G : Gl} {K K' : Sx} {A : Around} {env : Env} {ρ : List V} {σ σ' : Ow} {F F₁ F' : Fz} {s s₁ s' : Shared} {E : Value → Shared → Prop} {Q : KS} {e : PySem.Expr} {es : List PySem.Expr} {ss B : List Stmt} {x y z kk : V} {xs ys : List V} {p q q' ap pe pc : Pos} {w : Bool} {C N dx b f X : Addr} {mN : Str → Option Value} {m g : Str} {np : Nat}
theorem bc9 {R : Value → Shared → Prop} (T : TrC G C N mN) (M : Mth G mN m f K' np B) (hσ : σ dx = some (.tr w kk b)) (h1 : Ev G K ρ σ e (C3 C dx)) (hn : ∀ n env t, attributeBase e n env t = t) (hl : (ap.endLine == p.line) = true) (hs : es.all f0 = true) (h8 : es.length < 8) (k : EOk G K A env ρ σ F s)
  (fin : ∀ F₁ s₁ x, St G.x N0 F s F₁ s₁ → EOk G K A env ρ σ F₁ s₁ → Rel F₁ (C3 C dx) (.ref x) → wpAny G.M A (callWith p (.ref f) [.ref x] (es.map fun e => (false, eval e env)) []) R E s₁) : wpAny G.M A (eval (.Call (.Attribute e m ap) es [] p) env) R E s := by
 rw [arm_eval_Call]
 rw [hn]
 refine wpAny_bind (h1.bind k fun v F₁ s₁ S₁ r₁ k₁ => wpAny_bind (wpAny_standAt ?_))
 rw [m6 p env hs]
 have hform : methodCallForm (es.length + ([] : List Keyword).length) (es.map fun e => (false, eval e env)) (backToKw p (keywordEach [] env)) = true := by
  show ((es.map fun e => (false, eval e env)).all (fun x => !x.1) && true && decide (es.length + 0 + 0 < 30)) = true
  rw [o8, decide_eq_true (by exact a7 h8)]; rfl
 have hpos : methodCallPos true e env ap p = pure p := by unfold methodCallPos; simp [hl]
 unfold methodCall
 rw [hform]
 obtain ⟨x, mA, vk, rfl, I, _, _, _, _, h7⟩ := k₁.inst hσ r₁
 have X := T.cls.keeps k₁.rm.in
 obtain ⟨xq13, hC⟩ := aA6 X
 obtain ⟨of, hof, hfc⟩ := M.isf
 have hin := k₁.rm.in
 have next := fin F₁ s₁ x S₁ k₁ r₁
 obtain ⟨hh, g, d, t, os⟩ := s₁
 exact wpAny_bind (wpAny_holding (method_of hC X.ns T.q2 T.q3 M.bound (hin _ _ hof) hfc M.no I (h7 m M.nk M.np) (wpAny_bind (wpAny_of_eq hpos next))))
theorem ae3 (T : TrC G C N mN) (M : Mth G mN m f K' np B) (hσ : σ dx = some (.tr w kk b)) (h1 : Ev G K ρ σ e (C3 C dx)) (h : Rz G g xs X) (ha : EvL G K ρ σ es xs)
  (hn : ∀ n env t, attributeBase e n env t = t := by intros; rfl) (hl : (ap.endLine == p.line) = true := by rfl) (hs : es.all f0 = true := by rfl) (hg : j8 K g = true := by decide +kernel) : WR G K (.Expr (.Call (.Attribute e m ap) [.Call (.Name g q) es [] q'] [] p) pe :: ss) ρ σ X :=
 K0 fun A env F s k => wpAny_Expr_any (bc9 T M hσ h1 hn hl rfl (Nat.lt_of_sub_eq_succ rfl) k.e fun F₁ s₁ x S k₁ r => by
  obtain ⟨⟨of', fd, hof', hfd, _⟩, _⟩ := id M.fn
  refine Calls.callWith_function (o := of') (fd := fd) (l8 (o8 [_] env) (Calls.spliced_cons (wpAny_mono (at3 (Q := fun _ _ => False) h ha (k.step S) hs hg) (fun _ _ q => q.elim) fun _ _ q => q.from S.lk))) ) (by unfold interactive; rw [k.e.kind]; rfl) rfl
theorem bz1 {b : Addr} (k : EOk G K A env ρ σ F s) (h : σ b = some (.ro xs)) : ∃ vs, s.heap.IsList b (List.toArray vs) ∧ RelL F xs vs := by
 obtain ⟨_, o, ho, vs, n, rfl, r⟩ := k.own b _ h
 exact ⟨vs, ⟨_, ho, rfl, n, rfl⟩, r⟩
theorem bq5 {b : Addr} (h1 : Ev G K ρ σ e (.ref b)) (hb : σ b = some (.ro xs)) (hl : xs.length < 2 ^ 62) (hs : f0 e = true := by rfl) (hg : j8 K "len" = true := by decide +kernel) : Ev G K ρ σ (.Call (.Name "len" q) [e] [] p) (.int xs.length) :=
 X7 (fun A env F s E v k r => by cases show v = .ref b from r; obtain ⟨vs, h, hn⟩ := bz1 k hb; exact au8 k h hn.length hl) h1 hs hg
theorem RelL.snoc : ∀ {xs : List V} {y : V} {vs : List Value}, RelL F (xs ++ [y]) vs → ∃ us v, vs = us ++ [v] ∧ RelL F xs us ∧ Rel F y v
 | [], _, _, ⟨v, _, rfl, r, rfl⟩ => ⟨[], v, rfl, rfl, r⟩
 | _ :: _, _, _, ⟨u, ws, rfl, ru, rl⟩ => by
  obtain ⟨us, v, rfl, h1, h2⟩ := RelL.snoc rl
  exact ⟨u :: us, v, rfl, ⟨u, us, rfl, ru, h1⟩, h2⟩
theorem bb8 {a : Addr} {R : Value → Shared → Prop} (k : FOk G K A env ρ σ F s) (ha : σ a = some (.lst (xs ++ [y]))) (hl : xs.length ≤ 10000)
  (h : ∀ v h', Rel F y v → FOk G K A env ρ (σ.set a xs) F { s with heap := h' } → Lk G.x env σ F s (σ.set a xs) F { s with heap := h' } → R v { s with heap := h' }) : wpAny G.M A (call (.builtin "list.pop") [.ref a]) R E s := by
 obtain ⟨hF, vs, n, hv, rl⟩ := k.e.lst a _ ha
 obtain ⟨us, v, rfl, r1, r2⟩ := rl.snoc
 have hlen : us.length ≤ 10000 := by rw [r1.length]; exact hl
 have hsz : (us ++ [v]).toArray.size = us.length + 1 := by simp
 have e0 : (us ++ [v]).eraseIdx us.length = us := by rw [List.eraseIdx_append_of_length_le (Nat.le_refl _), Nat.sub_self]; exact List.append_nil us
 have e : ∃ m, Obj.mapSeq (fun xs => xs.eraseIdxIfInBounds ((us ++ [v]).toArray.size - 1)) (z7 (us ++ [v]) n) = z7 us m := ⟨_, by rw [hsz, Nat.add_sub_cancel]; simp only [Obj.mapSeq, z7, List.eraseIdxIfInBounds_toArray, e0]; rfl⟩
 obtain ⟨m, e⟩ := e
 have hfin : (s.heap.update a (Obj.mapSeq fun xs => xs.eraseIdxIfInBounds ((us ++ [v]).toArray.size - 1))).get? a = some (z7 us m) := (Heap.get?_update_self _ hv (by rw [e]; rfl)).trans (congrArg some e)
 have kk := k.put (t := s.toks) ha (Heap.SameBut.update ..).extBut hfin r1
 exact call_meets PySem.F.slot_list_pop ⟨_, hv, rfl⟩ PySem.F.entry_list_pop (PySem.F.args_list_pop_1 _) (PySem.MeetsSeq.list_pop_last a _ n v (by rw [hsz]; simp) (by rw [hsz]; exact Nat.le_trans (Nat.succ_le_succ hlen) (by decide))) ⟨hv, h v _ r2 kk.1 kk.2⟩
theorem bl1 {n n' : Str} {q₂ q₃ q₄ : Pos} (T : TrC G C N mN) (hd : σ dx = some (.tr true kk b)) (hb : σ b = some (.lst (xs ++ [y]))) (hne : dx ≠ b) (hl : xs.length ≤ 10000) (hy : ∀ F v, Rel F y v → ∀ i, v ≠ .builtin i) (h1 : Ev G K ρ σ (.Name n q) (C3 C dx)) (h2 : Ev G K ρ (σ.set b xs) (.Name n' q₂) (C3 C dx)) (h : WS G K ss ρ ((σ.set b xs).put dx (.tr true y b)) Q)
  (hp : (ap.endLine == q₄.line) = true := by rfl) : WS G K (.Assign [.Attribute (.Name n' q₂) "kept" q'] (.Call (.Attribute (.Attribute (.Name n q) "past" q₃) "pop" ap) [] [] q₄) p :: ss) ρ σ Q :=
 w4 fun A env F s E k => plainObj_wpAny_Assign_Attribute (Z5 (id := "list.pop") (aa3 T hd h1) (by intros; rfl) hp rfl (by decide) b9 k.e
  (fun F s v pl Q k r hq => by
   cases show v = .ref b from r
   obtain ⟨_, vs, n, hv, _⟩ := k.lst b _ hb
   exact getMethod_list_of PySem.F.slot_list_pop PySem.F.type_list_pop ⟨_, hv, rfl, n, rfl⟩ ⟨_, hv, rfl⟩ hq)
  (fun v vs F₁ s₁ S₁ k₁ r₁ rl => by
   cases show v = .ref b from r₁
   cases show vs = [] from rl
   refine bb8 (k.step S₁) hb hl fun u h' ru k₂ L₂ => h2.bind k₂.e fun o F₃ s₃ S₃ r₃ k₃ => ?_
   obtain ⟨x, ox, _, _, rfl, hx, _, hp'⟩ := r₃
   exact aj1 T (k₂.step S₃) ((Ow.set_ne _ _ hne).trans hd) hx hp' (ru.mono S₃.up) (hy _ _ ru) fun h'' t k₄ L₄ => ⟨.next, ρ, _, F₃, trivial, k₄, ((S₁.lk.trans L₂).trans S₃.lk).trans L₄, h⟩)) rfl
end
section
variable {G : Gl} {a : List Nat} {i : Int}
end
def Ro (σ σc : Ow) : Prop := ∀ a c, σc a = some c → c.rw = false ∧ ∃ c', σ a = some c' ∧ ∀ X F o, OcR X F o c' → OcR X F o c
section
variable {G : Gl} {K K' : Sx} {A : Around} {env : Env} {ρ : List V} {σ σ' σc : Ow} {F F₁ F' : Fz} {s s₁ s' : Shared} {E : Value → Shared → Prop} {Q : KS} {e c : PySem.Expr} {es : List PySem.Expr} {ss B body : List Stmt} {x y z kk : V} {xs ys ps : List V} {p q q' ap pe pc : Pos} {w : Bool} {C N dx b f X : Addr} {mN : Str → Option Value} {m g : Str} {np : Nat}
theorem Ro.own (h : Ro σ σc) (k : EOk G K A env ρ σ F s) : ∀ a c, σc a = some c → F a = none ∧ ∃ o, s.heap.get? a = some o ∧ OcR G.x F o c := fun a c q => by
 obtain ⟨_, c', e, t⟩ := h a c q
 exact (k.own a c' e).imp id fun u => u.imp fun o u => ⟨u.1, t _ F o u.2⟩
theorem Ro.rw (h : Ro σ σc) : ∀ a c, σc a = some c → c.rw = false := fun a c q => (h a c q).1
theorem aC7 (FA : FnAt G.B G.mg g K' np B) (hR : Ro σ σc) (ha : EvL G K ρ σ es xs) (hlen : xs.length = np) (hd : 0 < G.d) (body : WS G.dn K' B (xs ++ List.replicate (K'.ns.length - np) .unb) σc (ao1 z)) (hs : es.all f0 = true := by rfl) (hg : j8 K g = true := by decide +kernel) : Ev G K ρ σ (.Call (.Name g q) es [] p) z := fun A env F s E k => by
 obtain ⟨o, fd, hf, ho, hfd, _⟩ := FA.obj
 refine wpAny_Call_NameR (n7 k (.inl hf) hg ?_)
 rw [m6 p env hs]
 exact Calls.callWith_function (l8 (o8 es env) (ha.bind k fun vs F₁ s₁ S₁ r₁ k₁ => ⟨⟨k₁.rm.in _ _ ho, hfd⟩, wpAny_mono (ak2 (P := (· = z)) FA.o hlen hd hR.rw (ag6 body fun fl ρ σ q => by cases fl; exact q.symm; exact ⟨z, q, rfl⟩) k₁.rm r₁ (hR.own k₁)) (fun _ _ q => q.elim fun _ q => q.1 ▸ q.2.from S₁) fun _ _ e => e⟩))
theorem bf0 {R : V → V → List V → Prop} (FA : FnAt G.B G.mg g K' np B) (hd : σ dx = some (.tr true kk b)) (hb : σ b = some (.lst ps)) (hne : dx ≠ b) (ha : EvL G K ρ σ es xs) (hlen : xs.length = np) (hG : 0 < G.d) (body : WS G.dn K' B (xs ++ List.replicate (K'.ns.length - np) .unb) (σT σ0 dx b kk ps) (trQ dx b R))
  (hs : es.all f0 = true := by rfl) (hg : j8 K g = true := by decide +kernel) : EvM G K ρ σ (.Call (.Name g q) es [] p) fun x σ' => ∃ k' ps', R x k' ps' ∧ σ' = σT σ dx b k' ps' := fun A env F s E k => by
 obtain ⟨o, fd, hf, ho, hfd, _⟩ := FA.obj
 refine wpAny_Call_NameR (n7 k.e (.inl hf) hg ?_)
 rw [m6 p env hs]
 refine Calls.callWith_function (l8 (o8 es env) (ha.bind k.e fun vs F₁ s₁ S₁ r₁ k₁ => ⟨⟨k₁.rm.in _ _ ho, hfd⟩, wpAny_mono (aP5 FA.o hlen hG hd hb hne body (k.step S₁) r₁) (fun v s' q => ?_) fun _ _ e => e⟩))
 obtain ⟨x, σ', F', rx, k', L, hR⟩ := q
 exact ⟨x, σ', F', rx, k', S₁.lk.trans L, hR⟩
def TrM (G : Gl) (K : Sx) (ρ : List V) (σ : Ow) (e : PySem.Expr) (R : Bool → Ow → Prop) : Prop :=
 ∀ A env F s E, FOk G K A env ρ σ F s → wpAny G.M A (isTrue e env (eval e env)) (fun v s' => ∃ σ' F', FOk G K A env ρ σ' F' s' ∧ Lk G.x env σ F s σ' F' s' ∧ R v σ') E s
theorem ba2 {v : Bool} {R : V → Ow → Prop} (h : EvM G K ρ σ e R) (hv : ∀ x σ', R x σ' → x = .bool v) (hp : ac8 e = true := by rfl) : TrM G K ρ σ e fun u σ' => u = v ∧ R (.bool v) σ' := fun A env F s E k => by
 rw [Q3 hp]
 refine wpAny_bind (wpAny_mono (h A env F s E k) (fun u s₁ q => ?_) fun _ _ e => e)
 obtain ⟨x, σ', F', rx, k', L, hR⟩ := q
 cases hv x σ' hR
 cases show u = .bool v from rx
 exact wpAny_bind (wpAny_standAt (wpAny_holding (wpAny_truthy_bool ⟨σ', F', k', L, rfl, hR⟩)))
theorem aZ3 {a b' : List Stmt} {R : Bool → Ow → Prop} (h1 : TrM G K ρ σ c R) (ht : ∀ σ', R true σ' → WS G K a ρ σ' (Kc G K ss Q)) (hf : ∀ σ', R false σ' → WS G K b' ρ σ' (Kc G K ss Q)) : WS G K (.If c a b' p :: ss) ρ σ Q :=
 w4 fun A env F s E k => wpAny_If (wpAny_mono (h1 A env F s E k) (fun v s₁ q => by
  obtain ⟨σ', F', k', L, hR⟩ := q
  cases v
  ·exact Y2 L (hf σ' hR A env F' s₁ E k')
  ·exact Y2 L (ht σ' hR A env F' s₁ E k')) fun _ _ e => e)
end
section
variable {M : Model} {A : Around} {E : Value → Shared → Prop} {h : Heap} {g : Array GenState} {d : Drawn} {t : Nat} {os : OsState}
variable {nm q nm' q' : Str} {C N C' N' : Addr} {bs bm bs' bm' : List Value} {hdct hdct' : Bool} {sn sn' : List Str} {sub sub' : List Value} {ab ab' : Bool} {col col' : Option Bool} {dd dd' : Option Addr} {k0 k1 k2 k3 k5 l0 l1 l2 l3 l5 : Option Value} {newId newId' : String}
theorem bq0 {e : Addr} {oe : Obj} {Q : Bool → Shared → Prop} (hC : h.get? C = some (excClassObj nm q C N bs bm hdct sn sub ab col dd k0 k1 k2 k3 k5 newId)) (hC' : h.get? C' = some (excClassObj nm' q' C' N' bs' bm' hdct' sn' sub' ab' col' dd' l0 l1 l2 l3 l5 newId')) (he : h.get? e = some oe) (hcls : oe.cls = .ref C)
  (hbase : bm'.contains (.type "BaseException") = true) (hyes : (Value.ref C :: bm).contains (.ref C') = true) (hq : Q true ⟨h, g, d, t, os⟩) : wpAny M A (excMatches (.ref e) (.ref C')) Q E ⟨h, g, d, t, os⟩ := by
 have hcB : (Value.ref C' :: bm').contains (.type "BaseException") = true := by rw [List.contains_cons, hbase, Bool.or_true]
 have f := tc_notTuple
 unfold excMatches
 repeat (first | (with_reducible refine wpAny_loadPart_at he ?_; rw [hcls]) | with_reducible refine wpAny_loadPart_at hC' ?_ | (with_reducible refine wpAny_isSubtype_exc hC' ?_; rw [hcB]) | (with_reducible refine wpAny_isSubtype_exc hC ?_; rw [hyes]) | wp_step)
 exact hq
end
section
variable {G : Gl} {K : Sx} {A : Around} {env : Env} {ρ : List V} {σ : Ow} {F : Fz} {s : Shared} {E : Value → Shared → Prop} {Q : KS} {ss body : List Stmt} {C T : Addr} {p np pos pr pc : Pos} {x t : Str} {hs : List ExceptHandler} {v : Bool} {kc : Nat}
end
section
variable {G : Gl} {K K' : Sx} {A : Around} {env : Env} {ρ : List V} {σ σ' σc : Ow} {F F₁ F' : Fz} {s s₁ s' : Shared} {E : Value → Shared → Prop} {Q : KS} {e e' c : PySem.Expr} {es : List PySem.Expr} {ss B body : List Stmt} {x y z kk : V} {xs ys ps ws : List V} {p q q' ap pe pc : Pos} {w : Bool} {C N dx b f X pa : Addr} {mN : Str → Option Value} {m g : Str} {np : Nat}
theorem bf5 (h1 : Ev G K ρ σ e (.lst xs)) (hl : xs.length ≤ sizeLine) (hs : f0 e = true := by rfl) (hg : j8 K "list" = true := by decide +kernel) : Ev G K ρ σ (.Call (.Name "list" q) [e] [] p) (.lst xs) :=
 am5 6 rfl hg (by rw [List.all_cons, hs]; rfl) (b8 h1 b9) (fun A env F s E vs k r => by
  obtain ⟨v, rfl, r₀⟩ := ag0 r
  obtain ⟨a, us, rfl, ⟨n, hF⟩, rl⟩ := r₀
  refine call_list_seq a (.inl rfl) (k.rm.sub _ _ hF) rfl rfl (fun h' c' hk ho => ?_) (by rw [List.size_toArray, rl.length]; exact hl)
  have out : F s.heap.objs.size = none := by
   cases q : F s.heap.objs.size with
   | none => rfl
   | some o => exact nS ((j9 s.heap).symm.trans (k.rm.sub _ _ q))
  exact ⟨_, (St.grow (t := s.toks) k.rm.sub hk).freeze (j9 _) ho out, _, us, rfl, ⟨c', Fz.add_self⟩, rl.mono fun a o e => (if_neg (by rintro rfl; exact nS (out.symm.trans e))).trans e⟩)
theorem bq3 {l : PySem.Expr} {lo hi : Option PySem.Expr} {m n : Option Int} (h1 : Ev G K ρ σ l (.scr xs)) (h2 : EvO G K ρ σ lo m) (h3 : EvO G K ρ σ hi n) (hl : xs.length ≤ sizeLine) : Ev G K ρ σ (.Subscript l (.Slice lo hi none q) p) (.lst (slice xs m n)) :=
 aJ4 h1 h2 h3 hl fun A env F s v k r => by
  obtain ⟨a, vs, rfl, ⟨o, hF, hc, n, hd⟩, rl⟩ := r
  exact ⟨a, vs, rfl, ⟨o, k.rm.sub _ _ hF, hc, n, hd⟩, rl⟩
theorem FOk.ownedO {a : Addr} {c : Oc} {o : Obj} (k : FOk G K A env ρ σ F s) (S : St G.x N0 F s F' s') (hn : s.heap.get? a = none) (hF : F' a = none) (ho : s'.heap.get? a = some o) (r : OcR G.x F' o c) : σ a = none ∧ FOk G K A env ρ (σ.put a c) F' s' ∧ Lk G.x env σ F s (σ.put a c) F' s' := by
 have k' := k.step S
 have hσ : σ a = none := by
  cases q : σ a with
  | none => rfl
  | some xs => exact (k.e.own _ xs q).2.elim fun _ q => nS (hn.symm.trans q.1)
 refine ⟨hσ, ⟨⟨k'.e.rm, k'.e.sc, k'.e.kind, k'.e.globals, k'.e.builtins, fun b xs q => ?_, k'.e.loc⟩, k'.top, k'.apart, k'.nodup, k'.own, k.setSep (k.newSep hn)⟩, S.any, fun b xs q => ?_⟩
 ·by_cases h : b = a
  ·subst h; cases (Ow.put_self ..).symm.trans q; exact ⟨hF, o, ho, r⟩
  ·exact k'.e.own b xs ((Ow.put_ne _ _ h).symm.trans q)
 ·by_cases h : b = a
  ·exact .inr (h ▸ hn)
  ·exact .inl ⟨xs, (Ow.put_ne _ _ h).symm.trans q, id⟩
end
section
variable {G : Gl} {K : Sx} {A : Around} {env : Env} {ρ : List V} {σ : Ow} {F F' : Fz} {s s' : Shared} {E : Value → Shared → Prop} {Q : KS} {l l₂ r : PySem.Expr} {ss : List Stmt} {xs ys : List V} {p q q' q₂ : Pos} {b c dx : Addr}
end
section
variable {G : Gl} {K : Sx} {A : Around} {env : Env} {ρ : List V} {σ : Ow} {F : Fz} {s : Shared} {E : Value → Shared → Prop} {l e e' c : PySem.Expr} {x y z : V} {p q pc : Pos} {a a' : List Nat} {kc : Nat}
theorem aC0 {t sl : Addr} {v₀ v₁ v₂ : Value} {u : Tok} {Q : Value → Shared → Prop} (ht : IsTup s.heap t #[v₀, v₁, v₂]) (hs : s.heap.IsSliceOf sl .none (.int 2 u) .none)
  (h : Q (.ref s.heap.objs.size) { s with heap := s.heap.push { cls := .type "tuple", data := .seq #[v₀, v₁] } }) : wpAny G.M A (getItem (.ref t) (.ref sl)) Q E s := by
 have hsz : sizeOk (.seq #[v₀, v₁]) := by show 2 ≤ sizeLine; decide
 obtain ⟨os, hos, hcs, hds⟩ := id hs
 have hTs : s.TypeIs (.ref sl) "slice" := ⟨os, hos, hcs⟩
 unfold getItem
 try with_reducible refine wpAny_holding ?_
 first | refine wpAny_bind (wpAny_pure ?_) | skip
 refine wpAny_bind (wpAny_sequenceKey ht.typeIs (by decide) ?_)
 refine wpAny_bind (wpAny_callSpecial?_slot (name := Str.ofString "__getitem__") ht.typeIs slot_tuple_getitem
  (wpAny_call_entry slot_tuple_getitem ht.typeIs entry_tuple_getitem ?_ (args_tuple_getitem _ _)))
 show wpAny _ _ (Builtin.Tuple.tupleItemsOf (.ref t) >>= _) _ _ s
 refine wpAny_bind (tupleItemsOf_ ht ?_)
 refine wpAny_bind (wpAny_typeOf hTs ?_)
 rw [if_pos (by decide)]
 refine wpAny_bind ?_
 unfold Builtin.Slice.sliceApplied Builtin.Slice.sliceFields
 refine wpAny_bind (wpAny_bind (wpAny_field hos hds (x := .none) rfl (wpAny_bind (wpAny_field hos hds (x := .int 2 u) rfl (wpAny_bind (wpAny_field hos hds (x := .none) rfl (wpAny_pure ?_)))))))
 refine wpAny_bind (slicePart_none ?_)
 show wpAny _ _ (if ((1 : Int) == 0) = true then _ else _) _ _ s
 rw [if_neg (by decide)]
 refine wpAny_bind (slicePart_none (wpAny_bind (slicePart_int (wpAny_bind (wpAny_pure (wpAny_pure ?_))))))
 first
  | exact wpAny_bind (m := Builtin.Tuple.tupleExact _) (wpAny_newObj_type (wpAny_pure ⟨_, rfl, wpAny_pure h⟩) hsz)
  | exact wpAny_bind (m := Builtin.Tuple.tupleExact _) (wpAny_newObj_type (wpAny_bind (wpAny_pure (wpAny_pure ⟨_, rfl, wpAny_pure h⟩))) hsz)
  | exact wpAny_bind (wpAny_bind (m := Builtin.Tuple.tupleExact _) (wpAny_newObj_type (wpAny_pure (wpAny_pure ⟨_, rfl, wpAny_pure h⟩)) hsz))
  | exact wpAny_bind (wpAny_bind (m := Builtin.Tuple.tupleExact _) (wpAny_newObj_type (wpAny_pure ⟨_, rfl, wpAny_pure h⟩) hsz))
theorem aO8 {q₁ : Pos} (h1 : Ev G K ρ σ l (.tup [x, y, z])) : Ev G K ρ σ (.Subscript l (.Slice none (some (.Constant (.int 2) kc q₁)) none q) p) (.tup [x, y]) :=
 fun A env F₀ s E k => Subscript_ (h1.bind k fun v F₁ s₁ S₁ r₁ k₁ => wpAny_Slice (z9 A env F₁ s₁ E _ k₁ fun vl F₂ s₂ S₂ pl k₂ => (w7 c9) A env F₂ s₂ E _ k₂ fun vu F₃ s₃ S₃ pu k₃ => wpAny_evalPart_none (by
  have S₄ : St G.x N0 F₃ s₃ F₃ { s₃ with heap := s₃.heap.push { cls := .type "slice", data := .fields #[vl, vu, .none] } } := St.grow k₃.rm.sub fun _ _ e => Heap.get?_push_of_some _ e
  have k₄ := k₃.step S₄
  obtain ⟨b, _, rfl, ⟨n, hF⟩, v₀, _, rfl, r0, v₁, _, rfl, r1, v₂, _, rfl, r2, rfl⟩ := (r₁.mono S₂.up).mono S₃.up
  cases pl
  cases pu
  have ht : IsTup (s₃.heap.push { cls := .type "slice", data := .fields #[Value.none, Value.int 2 ‹Tok›, Value.none] }) b #[v₀, v₁, v₂] := ⟨_, k₄.rm.sub _ _ hF, rfl, n, rfl⟩
  refine tail_any (ops := [.ref s₃.heap.objs.size, .ref b]) ht.typeIs slot_tuple_getitem.lookup ?_ rfl
  refine E3 (((S₁.trans S₂).trans S₃).trans S₄) (aC0 ht ⟨_, Heap.get?_push_size _ rfl, rfl, rfl⟩ ?_)
  exact Q1 k₄.rm (an9 [v₀, v₁] 0) s₃.toks ⟨_, _, rfl, ⟨0, Fz.add_self⟩, v₀, _, rfl, r0.mono (ae0 k₄.rm), v₁, _, rfl, r1.mono (ae0 k₄.rm), rfl⟩ rfl)))
theorem aM4 {R : Bool → Ow → Prop} (h : TrM G K ρ σ e R) : TrM G K ρ σ (.UnaryOp .Not e p) fun u σ' => R (!u) σ' := fun A env F s E k => by
 show wpAny _ A (do return !(← isTrue e env (eval e env))) _ _ s
 exact wpAny_bind (wpAny_mono (h A env F s E k) (fun v s' q => wpAny_pure (by
  obtain ⟨σ', F', k', L, hR⟩ := q
  exact ⟨σ', F', k', L, by show R (!!v) σ'; rw [Bool.not_not]; exact hR⟩)) fun _ _ e => e)
end
end Mine
namespace Mine
open PySem PyProof.Rows PySem.W
def KvR : List (List Nat × Int) → List (Str × Value) → Prop
 | [], ps => ps = []
 | r :: l, ps => ∃ t qs, ps = (txt r.1, .int r.2 t) :: qs ∧ KvR l qs
noncomputable abbrev Kn (prog : Program) (w : World) := strKind prog w
def isD (prog : Program) (w : World) (kvs : List (List Nat × Int)) (o : Obj) : Prop := ∃ ps, o.IsDictOf (Kn prog w) ps ∧ KvR kvs ps
def bM9 (prog : Program) (w : World) (kvs : List (List Nat × Int)) (a : Addr) (o : Obj) (_ : Addr) (_ : Obj) : Prop := (a == sysModules) = false ∧ isD prog w kvs o
noncomputable abbrev I6 (G : Gl) (kvs : List (List Nat × Int)) : V := .obj (bM9 G.prog G.w kvs)
noncomputable abbrev G9 (G : Gl) (kvs : List (List Nat × Int)) : Oc := .gen (isD G.prog G.w kvs)
theorem ah1 {a b : List Nat} (h : txt a = txt b) : a = b := congrArg (fun x : Str => x.cps.toList) h
theorem KvR.length : ∀ {kvs : List (List Nat × Int)} {ps : List (Str × Value)}, KvR kvs ps → ps.length = kvs.length
 | [], _, rfl => rfl
 | _ :: _, _, ⟨_, _, rfl, r⟩ => congrArg Nat.succ r.length
noncomputable def A8 (kvs : List (List Nat × Int)) (n : List Nat) : Option Int := (kvs.find? fun r => r.1 == n).map (·.2)
theorem KvR.look {n : List Nat} : ∀ {kvs : List (List Nat × Int)} {ps : List (Str × Value)}, KvR kvs ps → (A8 kvs n = none ∧ valueAt ps (txt n) = none) ∨ ∃ i t, A8 kvs n = some i ∧ valueAt ps (txt n) = some (.int i t)
 | [], _, rfl => .inl ⟨rfl, rfl⟩
 | r :: l, _, ⟨t, qs, rfl, h⟩ => by
  unfold A8 valueAt
  rw [List.find?_cons, List.find?_cons]
  by_cases e : r.1 = n
  ·subst e
   exact .inr ⟨r.2, t, by rw [beq_self_eq_true]; rfl, by rw [decide_eq_true rfl]; rfl⟩
  ·rw [beq_eq_false_iff_ne.mpr e, decide_eq_false fun q => e (ah1 q)]
   exact h.look
theorem KvR.get : ∀ {kvs : List (List Nat × Int)} {ps : List (Str × Value)} {i : Nat} {k : Str} {x : Value}, KvR kvs ps → ps[i]? = some (k, x) → ∃ r, kvs[i]? = some r ∧ k = txt r.1
 | [], _, i, _, _, rfl, e => nomatch e
 | r :: l, _, 0, _, _, ⟨t, qs, rfl, h⟩, e => by cases e; exact ⟨r, rfl, rfl⟩
 | r :: l, _, i + 1, _, _, ⟨t, qs, rfl, h⟩, e => h.get (i := i) e
noncomputable def K9 (kvs : List (List Nat × Int)) (n : List Nat) (v : Int) : List (List Nat × Int) := if kvs.any (fun r => r.1 == n) then kvs.map (fun r => if r.1 == n then (r.1, v) else r) else kvs ++ [(n, v)]
theorem KvR.any {n : List Nat} : ∀ {kvs : List (List Nat × Int)} {ps : List (Str × Value)}, KvR kvs ps → ps.any (fun kv => kv.1 = txt n) = kvs.any (fun r => r.1 == n)
 | [], _, rfl => rfl
 | r :: l, _, ⟨t, qs, rfl, h⟩ => by
  rw [List.any_cons, List.any_cons, h.any]
  congr 1
  by_cases e : r.1 = n
  ·subst e; rw [beq_self_eq_true]; exact decide_eq_true rfl
  ·rw [beq_eq_false_iff_ne.mpr e]; exact decide_eq_false fun q => e (ah1 q)
theorem KvR.put {n : List Nat} {v : Int} {u : Tok} : ∀ {kvs : List (List Nat × Int)} {ps : List (Str × Value)}, KvR kvs ps → KvR (kvs.map fun r => if r.1 == n then (r.1, v) else r) (ps.map fun kv => if kv.1 = txt n then (kv.1, .int v u) else kv)
 | [], _, rfl => rfl
 | r :: l, _, ⟨t, qs, rfl, h⟩ => by
  rw [List.map_cons, List.map_cons]
  by_cases e : r.1 = n
  ·subst e
   rw [if_pos (beq_self_eq_true _), if_pos rfl]
   exact ⟨u, _, rfl, h.put⟩
  ·rw [if_neg (by rw [beq_eq_false_iff_ne.mpr e]; exact Bool.false_ne_true), if_neg fun q => e (ah1 q)]
   exact ⟨t, _, rfl, h.put⟩
theorem KvR.snoc {n : List Nat} {v : Int} {u : Tok} : ∀ {kvs : List (List Nat × Int)} {ps : List (Str × Value)}, KvR kvs ps → KvR (kvs ++ [(n, v)]) (ps ++ [(txt n, .int v u)])
 | [], _, rfl => ⟨u, [], rfl, rfl⟩
 | r :: l, _, ⟨t, qs, rfl, h⟩ => ⟨t, _, rfl, h.snoc⟩
theorem KvR.store {kvs : List (List Nat × Int)} {ps : List (Str × Value)} {n : List Nat} {v : Int} {u : Tok} (h : KvR kvs ps) : KvR (K9 kvs n v) (stored ps (txt n) (.int v u)) := by
 unfold K9 stored
 rw [h.any]
 split
 ·exact h.put
 ·exact h.snoc
theorem bm4 : sizeLine = 16777216 := rfl
theorem aB6 {prog : Program} {w : World} {F : Fz} : ∀ {kvs : List (List Nat × Int)} {ps : List (Str × Value)} {vs : List Value}, KvR kvs ps → vs.length = kvs.length → (∀ (j : Nat) (v : Value), vs[j]? = some v → ∃ k x, ps[j]? = some (k, x) ∧ (Kn prog w).is k v = true) → RelL F (kvs.map fun r => .str r.1) vs := fun {kvs} => by
 induction kvs with
 | nil => exact fun {_ vs} _ hl _ => List.eq_nil_of_length_eq_zero hl
 | cons r l ih =>
  intro ps vs h hl hv
  cases vs with
  | nil => cases hl
  | cons v vs =>
   obtain ⟨t, qs, rfl, h⟩ := h
   obtain ⟨k, x, e1, e2⟩ := hv 0 v rfl
   cases e1
   obtain ⟨u, rfl⟩ := Value.isStrOf_shape e2
   exact ⟨_, vs, rfl, ⟨u, rfl⟩, ih h (Nat.succ.inj hl) fun j v e => hv (j + 1) v e⟩
inductive Dc (G : Gl) (σ : Ow) (kvs : List (List Nat × Int)) : V → Prop
 | fz : Dc G σ kvs (I6 G kvs)
 | own {a : Addr} : σ a = some (G9 G kvs) → Dc G σ kvs (.ref a)
section
variable {G : Gl} {K : Sx} {A : Around} {env : Env} {ρ : List V} {σ : Ow} {F : Fz} {s : Shared} {E : Value → Shared → Prop} {Q : KS} {e l r : PySem.Expr} {ss : List Stmt} {x y : V} {p q q' : Pos} {n : List Nat} {v : Int} {kvs : List (List Nat × Int)}
theorem Dc.at {u : Value} (h : Dc G σ kvs x) (hsy : ∃ o, G.B.get? sysModules = some o) (k : EOk G K A env ρ σ F s) (ru : Rel F x u) : ∃ a ps, u = .ref a ∧ s.heap.DictOf (Kn G.prog G.w) a ps ∧ KvR kvs ps ∧ (a == sysModules) = false := by
 cases h with
 | fz =>
  obtain ⟨a, o, _, _, rfl, hF, _, hs, ps, hd, hk⟩ := ru
  exact ⟨a, ps, rfl, Heap.dictOf_iff.mpr ⟨o, k.rm.sub _ _ hF, hd⟩, hk, hs⟩
 | own ha =>
  rename_i a
  obtain ⟨hF, o, ho, _, ps, hd, hk⟩ := k.own a _ ha
  refine ⟨a, ps, ru, Heap.dictOf_iff.mpr ⟨o, ho, hd⟩, hk, beq_eq_false_iff_ne.mpr ?_⟩
  rintro rfl
  obtain ⟨ob, hb⟩ := hsy
  exact nS (hF.symm.trans (k.rm.base _ _ hb))
theorem E6 (h : Dc G σ kvs x) (hsy : ∃ o, G.B.get? sysModules = some o) (h1 : Ev G K ρ σ e x) (hl : kvs.length ≤ 10000) (hs : f0 e = true := by rfl) (hg : j8 K "len" = true := by decide +kernel) : Ev G K ρ σ (.Call (.Name "len" q) [e] [] p) (.int kvs.length) :=
 X7 (fun A env F s E v k rv => by
  obtain ⟨a, ps, rfl, hd, hk, ha⟩ := h.at hsy k rv
  have hl' := hk.length
  refine call_len_dict (knd := Kn G.prog G.w) ha hd (by exact Int.ofNat_lt.mpr (n8 _ _ (.k 1 c8 d5 (.k 1 d5 (.num 10000) .o)) i9 (.num 9223372036854775808) tt (Nat.le_of_eq hl') hl)) ?_
  rw [hl']
  exact s7 k.rm _ ⟨_, rfl⟩) h1 hs hg
theorem aw2 (h : Dc G σ kvs y) (hsy : ∃ o, G.B.get? sysModules = some o) (h1 : Ev G K ρ σ l (.str n)) (h2 : Ev G K ρ σ r y) (hm : behindInMarks .In r = false := by rfl) : Tr G K ρ σ (.Compare l [.In] [r] p) (A8 kvs n).isSome := fun A env F s E k =>
 wpAny_isTrue_Compare1 (h1.bind k fun v F₁ s₁ S₁ r₁ k₁ => h2.bind k₁ fun w F₂ s₂ S₂ r₂ k₂ => by
  obtain ⟨t, rfl⟩ := r₁
  obtain ⟨a, ps, rfl, hd, hk, ha⟩ := h.at hsy k₂ r₂
  refine wpAny_in_of (knd := Kn G.prog G.w) (k := txt n) (beq_self_eq_true _) ha hd.mapOf ?_
  have e : (valueAt ps (txt n)).isSome = (A8 kvs n).isSome := by rcases hk.look (n := n) with ⟨e1, e2⟩ | ⟨i, t, e1, e2⟩ <;> rw [e1, e2] <;> rfl
  rw [e]
  exact wpAny_truthy_bool ⟨F₂, (S₁.trans S₂).trans (St.grow (t := s₂.toks + 1) k₂.rm.sub fun _ _ e => e), rfl⟩) hm
theorem aT8 (h : Dc G σ kvs y) (hsy : ∃ o, G.B.get? sysModules = some o) (h1 : Ev G K ρ σ l (.str n)) (h2 : Ev G K ρ σ r y) (hm : behindInMarks .NotIn r = false := by rfl) : Tr G K ρ σ (.Compare l [.NotIn] [r] p) (!(A8 kvs n).isSome) := fun A env F s E k =>
 wpAny_isTrue_Compare1 (h1.bind k fun v F₁ s₁ S₁ r₁ k₁ => h2.bind k₁ fun w F₂ s₂ S₂ r₂ k₂ => by
  obtain ⟨t, rfl⟩ := r₁
  obtain ⟨a, ps, rfl, hd, hk, ha⟩ := h.at hsy k₂ r₂
  refine wpAny_notIn_of (knd := Kn G.prog G.w) (k := txt n) (beq_self_eq_true _) ha hd.mapOf ?_
  have e : (valueAt ps (txt n)).isSome = (A8 kvs n).isSome := by rcases hk.look (n := n) with ⟨e1, e2⟩ | ⟨i, t, e1, e2⟩ <;> rw [e1, e2] <;> rfl
  rw [e]
  exact wpAny_truthy_bool ⟨F₂, (S₁.trans S₂).trans (St.grow (t := s₂.toks + 1) k₂.rm.sub fun _ _ e => e), rfl⟩) hm
theorem ad4 (h : Dc G σ kvs x) (hsy : ∃ o, G.B.get? sysModules = some o) (h1 : Ev G K ρ σ l x) (h2 : Ev G K ρ σ r (.str n)) (hv : A8 kvs n = some v) (hn : F3 r = true := by rfl) : Ev G K ρ σ (.Subscript l r p) (.int v) := fun A env F s E k =>
 Subscript_ (h1.bind k fun u F₁ s₁ S₁ r₁ k₁ => h2.bind k₁ fun w F₂ s₂ S₂ r₂ k₂ => by
  obtain ⟨t, rfl⟩ := r₂
  obtain ⟨a, ps, rfl, hd, hk, ha⟩ := h.at hsy k₂ (r₁.mono S₂.up)
  obtain ⟨i, t', e1, e2⟩ := (hk.look (n := n)).resolve_left fun q => nomatch hv.symm.trans q.1
  cases hv.symm.trans e1
  refine tail_any (ops := [.ref a, .str (txt n) t]) hd.typeIs slot_dict_getitem.lookup ?_ (M8 hn _ _)
  exact wpAny_getItem_of (knd := Kn G.prog G.w) (k := txt n) (beq_self_eq_true _) hd.mapOf e2 ⟨F₂, (S₁.trans S₂).trans (St.grow (t := s₂.toks + 1) k₂.rm.sub fun _ _ e => e), _, rfl⟩)
theorem aO4 (hh : True) : It0 G (I6 G kvs) (kvs.map fun r => .str r.1) := fun A F s E v R k rv h => by
 obtain ⟨a, o, _, _, rfl, hF, _, hs, ps, hd, hk⟩ := rv
 have hm : s.heap.DictOf (Kn G.prog G.w) a ps := Heap.dictOf_iff.mpr ⟨o, k.sub _ _ hF, hd⟩
 obtain ⟨ep, hda⟩ := hm.dictAt
 have ne : a ≠ s.heap.objs.size := Nat.ne_of_lt hda.lt_size
 refine wpAny_pyIter_dict hs hda (h _ _ (aq9 (Walks.dictKeys k.handled s.heap.objs.size a ne ps ep) (by rw [List.length_map, hk.length]) (fun b hb hn => ?_) (fun i y v hy hv => ?_) fun i h' t => ?_) ⟨⟨_, Heap.get?_push_size _ rfl, rfl, rfl⟩, hda.push _⟩)
 ·rcases List.mem_cons.mp hb with e | hb
  ·exact absurd e hn
  ·rw [List.mem_singleton.mp hb]; exact ⟨o, hF⟩
 ·obtain ⟨k', x, e1, e2⟩ := hv
  obtain ⟨r, e3, e4⟩ := hk.get e1
  rw [List.getElem?_map, e3] at hy
  cases hy
  obtain ⟨t, rfl⟩ := Value.isStrOf_shape e2
  rw [e4]
  exact ⟨t, rfl⟩
 ·obtain ⟨⟨o', ho', hc, hd'⟩, _⟩ := t
  exact ⟨o', _, _, ho', hc, hd', by decide⟩
end
section
variable {G : Gl} {K : Sx} {A : Around} {env : Env} {ρ : List V} {σ : Ow} {F : Fz} {s : Shared} {E : Value → Shared → Prop} {Q : KS} {e l r : PySem.Expr} {ss : List Stmt} {x y : V} {p q q' ap : Pos} {n : List Nat} {v : Int} {kvs : List (List Nat × Int)} {a : Addr}
theorem be2 {prog : Program} {w : World} {o : Obj} (h : isD prog w kvs o) : ∃ es ep, o.data = .dict es ep := by
 obtain ⟨ps, ⟨es, ep, _, hd, _⟩, _⟩ := h
 exact ⟨es, ep, hd⟩
theorem by4 (hsy : ∃ o, G.B.get? sysModules = some o) (R : Rm G A F s) (h : F a = none) : (a == sysModules) = false := by
 refine beq_eq_false_iff_ne.mpr ?_
 rintro rfl
 obtain ⟨ob, hb⟩ := hsy
 exact nS (h.symm.trans (R.base _ _ hb))
theorem aM7 (hsy : ∃ o, G.B.get? sysModules = some o) (R : Rm G A F s) : (s.heap.objs.size == sysModules) = false := by
 refine by4 hsy R ?_
 cases q : F s.heap.objs.size with
 | none => rfl
 | some o => exact nS ((j9 s.heap).symm.trans (R.sub _ _ q))
theorem FOk.putD {h' : Heap} {t : Nat} {o' : Obj} {P P' : Obj → Prop} (k : FOk G K A env ρ σ F s) (hd : σ a = some (.gen P)) (hs : Heap.ExtBut a s.heap h') (ho : h'.get? a = some o') (r : P' o') (hdk : ∃ es ep, o'.data = .dict es ep) :
  FOk G K A env ρ (σ.put a (.gen P')) F { s with heap := h', toks := t } ∧ Lk G.x env σ F s (σ.put a (.gen P')) F { s with heap := h', toks := t } := by
 obtain ⟨hF, oo, hoo, hx, _⟩ := k.e.own a _ hd
 have hsep := k.sep a _ hd
 refine ⟨k.other hF hs hsep.1 (hsep.2 rfl) (fun b c q => ?_) (k.setSep (hsep.imp id fun h _ => h rfl)), St.change k.e.rm.sub hF (.inl (.inr ⟨_, hd, rfl⟩)) hs ⟨o', ho, fun o _ _ _ _ => hdk⟩, fun b c q => ?_⟩
 ·by_cases h : b = a
  ·subst h; cases (Ow.put_self ..).symm.trans q; exact ⟨hF, o', ho, hx, r⟩
  ·exact (k.e.own b c ((Ow.put_ne _ _ h).symm.trans q)).imp id fun t => t.imp fun o t => ⟨hs b o h t.1, t.2⟩
 ·by_cases h : b = a
  ·exact .inl ⟨_, h ▸ hd, fun _ => rfl⟩
  ·exact .inl ⟨c, (Ow.put_ne _ _ h).symm.trans q, id⟩
theorem as6 (i : Nat) {nm : Str} (hx : G.x = true) (hsy : ∃ o, G.B.get? sysModules = some o) (h : ∀ a, σ a = none → (a == sysModules) = false → WS G K ss (ρ.set i (.ref a)) (σ.put a (G9 G [])) Q) (hn : w0 K i nm = true := by decide +kernel) : WS G K (.Assign [.Name nm q] (.Dict [] [] q') p :: ss) ρ σ Q :=
 w4 fun A env F s E k => wpAny_Assign_Name (wpAny_Dict_empty (by
  have S : St G.x N0 F s F { s with heap := s.heap.push { cls := .type "dict", data := .dict #[] } } := St.grow (t := s.toks) k.e.rm.sub fun _ _ e => Heap.get?_push_of_some _ e
  have hF : F s.heap.objs.size = none := by
   cases q : F s.heap.objs.size with
   | none => rfl
   | some o => exact nS ((j9 s.heap).symm.trans (k.e.rm.sub _ _ q))
  have hD : (s.heap.push { cls := .type "dict", data := .dict #[] }).DictOf (Kn G.prog G.w) s.heap.objs.size [] := Heap.DictOf.new _
  obtain ⟨o, ho, hd⟩ := Heap.dictOf_iff.mp hD
  obtain ⟨hσ, k', L⟩ := k.ownedO (c := G9 G []) S (j9 _) hF ho ⟨hx, [], hd, rfl⟩
  exact A5 (x := .ref s.heap.objs.size) k' hn rfl fun h' t k₂ L₂ _ => ⟨.next, _, _, F, trivial, k₂, L.trans L₂, h _ hσ (aM7 hsy k.e.rm)⟩)) rfl
theorem P5 (h1 : Ev G K ρ σ l (.ref a)) (ha : σ a = some (G9 G kvs)) (h2 : Ev G K ρ σ r (.str n)) (h3 : Ev G K ρ σ e (.int v)) (hl : kvs.length ≤ 10000) (h : WS G K ss ρ (σ.put a (G9 G (K9 kvs n v))) Q)
  (hsw : ∀ env, env.scope = K.sc → swapsWith e (some (.Subscript l r q)) p.line env = pure false := by intros; rfl) : WS G K (.Assign [.Subscript l r q] e p :: ss) ρ σ Q :=
 w4 fun A env F s E k => wpAny_Assign_Subscript (h3.bind k.e fun u F₁ s₁ S₁ r₁ k₁ => h1.bind k₁ fun o F₂ s₂ S₂ r₂ k₂ => h2.bind k₂ fun w F₃ s₃ S₃ r₃ k₃ => by
  cases show o = .ref a from r₂
  obtain ⟨t, rfl⟩ := r₃
  obtain ⟨t', rfl⟩ := r₁
  obtain ⟨hF, o, ho, hx, ps, hd, hk⟩ := k₃.own a _ ha
  have S := (S₁.trans S₂).trans S₃
  refine wpAny_setItem_pairs (knd := Kn G.prog G.w) (k := txt n) (beq_self_eq_true _) (Heap.dictOf_iff.mpr ⟨o, ho, hd⟩) (fun h' hD hs => ?_) (by rw [hk.length, bm4]; exact aw3 hl)
  obtain ⟨o', ho', hd'⟩ := Heap.dictOf_iff.mp hD
  have hP : isD G.prog G.w (K9 kvs n v) o' := ⟨_, hd', hk.store⟩
  have kk := (k.step S).putD (t := s₃.toks + 1) ha hs.extBut ho' hP (be2 hP)
  exact ⟨.next, ρ, _, F₃, trivial, kk.1, S.lk.trans kk.2, h⟩) (hsw env k.e.sc)
theorem am4 (h : Dc G σ kvs x) (hsy : ∃ o, G.B.get? sysModules = some o) (h1 : Ev G K ρ σ e x) (hl : kvs.length ≤ 10000) (hs : f0 e = true := by rfl) (hg : j8 K "dict" = true := by decide +kernel) : Ev G K ρ σ (.Call (.Name "dict" q) [e] [] p) (I6 G kvs) :=
 am5 13 rfl hg (by rw [List.all_cons, hs]; rfl) (b8 h1 b9) (fun A env F s E vs k rv => by
  obtain ⟨u, rfl, ru⟩ := ag0 rv
  obtain ⟨b, ps, rfl, hd, hk, hb⟩ := h.at hsy k ru
  refine kt_call_dict (knd := Kn G.prog G.w) hb hd (by rw [hk.length, bm4]; exact aw3 hl) fun h' hD hsb => ?_
  have out : F s.heap.objs.size = none := by
   cases q : F s.heap.objs.size with
   | none => rfl
   | some o => exact nS ((j9 s.heap).symm.trans (k.rm.sub _ _ q))
  obtain ⟨o, ho, hdo⟩ := Heap.dictOf_iff.mp hD
  refine ⟨_, (St.grow (t := s.toks) k.rm.sub fun b o e => ?_).freeze (j9 _) ho out, _, o, _, o, rfl, Fz.add_self, Fz.add_self, aM7 hsy k.rm, ps, hdo, hk⟩
  have hne : b ≠ s.heap.objs.size := by rintro rfl; exact nS ((j9 s.heap).symm.trans e)
  exact hsb.extBut b o hne (Heap.get?_push_of_some _ e))
theorem bf4 (h : Dc G σ kvs x) (hsy : ∃ o, G.B.get? sysModules = some o) (h1 : Ev G K ρ σ e x) (hl : kvs.length ≤ 10000) (hs : f0 e = true := by rfl) (hg : j8 K "list" = true := by decide +kernel) : Ev G K ρ σ (.Call (.Name "list" q) [e] [] p) (.lst (kvs.map fun r => .str r.1)) :=
 am5 6 rfl hg (by rw [List.all_cons, hs]; rfl) (b8 h1 b9) (fun A env F s E vs k rv => by
  obtain ⟨u, rfl, ru⟩ := ag0 rv
  obtain ⟨b, ps, rfl, hd, hk, hb⟩ := h.at hsy k ru
  obtain ⟨ep, hda⟩ := hd.dictAt
  refine kdl_call (kdl_dict (knd := Kn G.prog G.w) hb) k.rm.handled hda (by rw [hk.length, bm4]; exact aw3 hl) fun h' tk acc c hkeep hD hacc => ?_
  have out : F s.heap.objs.size = none := by
   cases q : F s.heap.objs.size with
   | none => rfl
   | some o => exact nS ((j9 s.heap).symm.trans (k.rm.sub _ _ q))
  refine ⟨_, (St.grow (t := tk) k.rm.sub hkeep).freeze (j9 _) hD out, _, acc.toList, rfl, ⟨c, by rw [Fz.add_self]; rfl⟩, ?_⟩
  exact aB6 hk (by rw [Array.length_toList]; exact hacc.1.trans hk.length) fun j v e => by
   obtain ⟨k', x, e1, e2⟩ := hacc.2 j v (by rw [← Array.getElem?_toList]; exact e)
   exact ⟨k', x, e1, e2⟩)
noncomputable def ag2 (kvs : List (List Nat × Int)) (n : List Nat) : V := match A8 kvs n with | some i => .int i | none => .none
theorem aP0 (h : Dc G σ kvs x) (hsy : ∃ o, G.B.get? sysModules = some o) (h1 : Ev G K ρ σ e x) (h2 : Ev G K ρ σ l (.str n)) (hn' : ∀ n env t, attributeBase e n env t = t := by intros; rfl) (hl : (ap.endLine == p.line) = true := by rfl) (hs : f0 l = true := by rfl) : Ev G K ρ σ (.Call (.Attribute e "get" ap) [l] [] p) (ag2 kvs n) := fun A env F s E k =>
 Z5 (id := "dict.get") h1 hn' hl (by rw [List.all_cons, hs]; rfl) (Nat.lt_of_sub_eq_succ rfl) (b8 h2 b9) k (by
   intro F s u pl Q k ru hQ
   obtain ⟨b, ps, rfl, hd, hk, hb⟩ := h.at hsy k ru
   exact getMethod_builtin hd.typeIs PySem.F.plainAttrs_dict PySem.F.slot_dict_get PySem.F.type_dict_get hd.mapOf.noDict hQ)
  (by
    rintro u _ F₁ s₁ S₁ k₁ ru ⟨_, _, rfl, ⟨t, rfl⟩, rfl⟩
    obtain ⟨b, ps, rfl, hd, hk, hb⟩ := h.at hsy k₁ ru
    refine E3 S₁ (wpAny_call_entry PySem.F.slot_dict_get hd.typeIs PySem.F.entry_dict_get ?_ (PySem.F.args_dict_get_2 _ _))
    have e : Rel F₁ (ag2 kvs n) ((valueAt ps (txt n)).getD .none) := by
     unfold ag2
     rcases hk.look (n := n) with ⟨e1, e2⟩ | ⟨i, t, e1, e2⟩ <;> rw [e1, e2]
     ·rfl
     ·exact ⟨t, rfl⟩
    show wpAny _ _ (dictGet b (.str (txt n) t) >>= _) _ _ s₁
    refine wpAny_bind (wpAny_dictGet_of (knd := Kn G.prog G.w) (k := txt n) (beq_self_eq_true _) hd.mapOf ?_)
    cases hf : valueAt ps (txt n) with
    | some v => rw [hf] at e; exact wpAny_pure ⟨v, rfl, s7 k₁.rm _ e⟩
    | none =>
     rw [hf] at e
     show wpAny _ _ (Builtin.Dict.missed b (.str (txt n) t) >>= _) _ _ _
     exact wpAny_bind (wpAny_missed_other hb (wpAny_pure ⟨.none, rfl, s7 k₁.rm _ e⟩)))
end
section
variable {prog : Program} {w : World} {A : Around} {E : Value → Shared → Prop} {s : Shared} {F : Fz}
theorem aD1 {d : Addr} {ps : List (Str × Value)} {ep : Nat} {Q : List Value → Shared → Prop} (lo : (d == sysModules) = false) (hh : A.handled = none) (hm : s.heap.DictAt (Kn prog w) d ps ep) (hn : ps.length ≤ sizeLine)
  (h : ∀ h' tk (vs : List Value), (∀ b o, s.heap.get? b = some o → h'.get? b = some o) → vs.length = ps.length → (∀ (j : Nat) (v : Value), vs[j]? = some v → ∃ k x, ps[j]? = some (k, x) ∧ (Kn prog w).is k v = true) → Q vs { s with heap := h', toks := tk }) : wpAny (model prog w) A (collect (.ref d)) Q E s := by
 unfold collect
 refine wpAny_bind (wpAny_runValue (codeAny_builtin entry_proto_collect' ?_))
 show wpAny _ _ (do again (.builtin "list.__iadd__" ⟨[← newList [], .ref d], []⟩)) _ _ s
 refine wpAny_bind (wpAny_newList (wpAny_pure ⟨Code.quiet_builtin _ (by decide +kernel), codeAny_builtin entry_list_iadd' ?_⟩))
 show wpAny _ _ (Builtin.List.listExtendWith (.ref s.heap.objs.size) (.ref d) (.ref s.heap.objs.size)) _ _ { s with heap := s.heap.push (seqObj "list" #[] 0) }
 have hne : s.heap.objs.size ≠ d := Nat.ne_of_gt hm.lt_size
 refine kdl_extend (A := A) (R := fun r s' => match r with
  | .ok (.ret v) => wpAny (model prog w) A (match v with | .ref a => (do let o ← load a; match o.data with | .seq xs _ => pure xs.toList | _ => unsupported "internal:collect") | _ => unsupported "internal:collect") Q E s'
  | .ok _ => False
  | .error e => E e s') (s := { s with heap := s.heap.push (seqObj "list" #[] 0) }) (kdl_dict (knd := Kn prog w) lo) hh (hm.push _) s.heap.objs.size hne hne (.ref s.heap.objs.size) 0 (Heap.get?_push_size _ rfl) (fun h' tk acc c hk hS hacc => ?_) hn
 show wpAny (model prog w) A (do
   let o ← load s.heap.objs.size
   match o.data with
   | .seq xs _ => pure xs.toList
   | _ => unsupported "internal:collect") Q E { s with heap := h', toks := tk }
 refine wpAny_bind (wpAny_load hS ?_)
 show wpAny _ _ (pure acc.toList) Q E _
 exact wpAny_pure (h h' tk acc.toList (fun b o e => hk b o (Nat.ne_of_lt (Heap.lt_size e)) (Heap.get?_push_of_some _ e)) (by rw [Array.length_toList]; exact hacc.1) fun j v e => hacc.2 j v (by rw [← Array.getElem?_toList]; exact e))
def SJ (x : f9) (r : J6) : Prop := (∃ t, x.1 = .str (txt r.1) t) ∧ r.2 = 0 ∧ x.2 = x.1
theorem ba8 : ∀ {ks : List (List Nat)} {vs : List Value}, RelL F (ks.map .str) vs → Paired SJ (vs.zip vs) (ks.map fun k => (k, 0))
 | [], _, rfl => .nil
 | _ :: _, _, ⟨_, _, rfl, r1, r⟩ => .cons ⟨r1, rfl, rfl⟩ (ba8 r)
theorem aH1 : ∀ {L : List f9} {rs : List J6}, Paired SJ L rs → RelL F ((rs.map (·.1)).map .str) (L.map (·.2))
 | _, _, .nil => rfl
 | _, _, .cons ⟨⟨t, h1⟩, _, h2⟩ q => ⟨_, _, rfl, ⟨t, h2.trans h1⟩, aH1 q⟩
theorem by6 {x y : f9} {r r' : J6} (hx : SJ x r) (hy : SJ y r') : wpAny (model prog w) A (keyLt' oneType' x.1 y.1) (fun c s' => c = C8 r r' ∧ s' = s) E s := by
 obtain ⟨⟨t, ht⟩, _⟩ := hx
 obtain ⟨⟨u, hu⟩, _⟩ := hy
 rw [ht, hu, keyLt'_oneType]
 refine oneLt_str ⟨?_, rfl⟩
 unfold C8; rfl
theorem ay7 : ∀ {ks : List (List Nat)} {vs : List Value}, RelL F (ks.map .str) vs → ∀ v ∈ vs, ∃ x t, v = .str x t
 | [], _, rfl, v, hv => nomatch hv
 | _ :: _, _, ⟨_, _, rfl, ⟨t, rfl⟩, r⟩, v, hv => by
  rcases List.mem_cons.mp hv with rfl | hv
  ·exact ⟨_, _, rfl⟩
  ·exact ay7 r v hv
theorem aR0 {a : Addr} {vs : List Value} {ks : List (List Nat)} {n : Nat} {P : Fin → Shared → Prop} (ho : s.heap.get? a = some (seqObj "list" vs.toArray n)) (r : RelL F (ks.map .str) vs) (hlen : ks.length ≤ 10000)
  (h : ∀ (out : List Value) (ks' : List (List Nat)), RelL F (ks'.map .str) out → ks'.Perm ks → ks'.Pairwise (fun a b => ¬ b < a) → P (.done (.ret .none)) { s with heap := sortedHeap s.heap a vs out.toArray }) :
  wpAny (model prog w) A (Builtin.«list.sort» ⟨[.ref a], []⟩) P E s := by
 have hl : vs.length = ks.length := by rw [RelL.length r, List.length_map]
 rw [list_sort_plain]
 have ha : a < s.heap.objs.size := Heap.lt_size ho
 refine wpAny_bind (listItems_at ho rfl ?_)
 refine wpAny_bind (listUpdate_at ho rfl ?_ (by rw [List.size_toArray, sizeLine_eq]; exact aV1 hl hlen) (Nat.zero_le _))
 obtain ⟨e1, ho1⟩ : ∃ e1, (s.heap.update a (Obj.mapSeq fun _ => #[])).get? a = some (seqObj "list" #[] e1) := ⟨_, get?_update_seq ho (fun _ => #[])⟩
 refine wpAny_bind (seqEpoch_at ho1 rfl ?_)
 refine wpAny_bind (wpAny_newTuple ?_ (by show vs.length ≤ _; rw [sizeLine_eq]; exact aV1 hl hlen))
 refine wpAny_bind (wpAny_newList ?_ (Nat.zero_le _))
 refine wpAny_holding ?_
 have ho6 : (((s.heap.update a (Obj.mapSeq fun _ => #[])).push (seqObj "tuple" vs.toArray 0)).push (seqObj "list" #[] 0)).get? a = some (seqObj "list" #[] e1) := by
  rw [Heap.get?_push_ne _ _ _ (by rw [size_push', Heap.size_update]; exact Nat.ne_of_lt (Nat.lt_succ_of_lt ha)), Heap.get?_push_ne _ _ _ (by rw [Heap.size_update]; exact Nat.ne_of_lt ha)]
  exact ho1
 show wpAny (model prog w) A _ P E { s with heap := ((s.heap.update a (Obj.mapSeq fun _ => #[])).push (seqObj "tuple" vs.toArray 0)).push (seqObj "list" #[] 0) }
 dsimp only
 have hsz : vs.toArray.size = vs.length := by simp
 by_cases h2 : vs.toArray.size < 2
 ·rw [if_pos h2, if_pos h2]
  refine wpAny_bind (wpAny_pure ?_)
  rw [StateT.run_pure]
  refine wpAny_bind (wpAny_pure ?_)
  dsimp only
  refine wpAny_bind (seqEpoch_at ho6 rfl ?_)
  refine wpAny_bind (listUpdate_at ho6 rfl ?_ (Nat.zero_le _) (hsz2 := by rw [Array.size_map]; show (vs.toArray.zip vs.toArray).size ≤ _; rw [sizeLine_eq]; simp; exact o5 _ (.k 1 i9 I7 .o) c8 (.num 16777217) tt h2))
  simp only [bne_self_eq_false, Bool.false_eq_true, if_false]
  have hz : ((vs.toArray.zip vs.toArray).map (·.2)) = vs.toArray := by
   apply Array.ext'
   simp
   rw [List.map_snd_zip (by exact o5 _ .o c8 c8 tt )]
  refine wpAny_pure ?_
  have := h vs ks r (.refl _) (by
   match ks, hl with
   | [], _ => exact .nil
   | [_], _ => exact List.pairwise_singleton ..
   | _ :: _ :: _, hl => simp at hl; exact (f'2 _ _ (.k 1 i9 I7 (.k 1 (.add y0 k9) c8 .o)) tt h2 (Nat.le_of_eq (Eq.symm hl))).elim)
  show P _ { s with heap := sortedHeap s.heap a vs ((vs.toArray.zip vs.toArray).map (·.2)) }
  rw [hz]; exact this
 ·rw [if_neg h2, if_neg h2]
  have hkind : keyKind' vs.toArray = pure oneType' := by
   have hall := ay7 r
   obtain ⟨v₁, v₂, rest, e⟩ : ∃ v₁ v₂ rest, vs = v₁ :: v₂ :: rest := by
    match vs, h2 with
    | [], h2 => exact absurd (by decide) h2
    | [_], h2 => exact absurd (Nat.lt_succ_self 1) h2
    | v₁ :: v₂ :: rest, _ => exact ⟨v₁, v₂, rest, rfl⟩
   rw [e] at hall ⊢
   exact keyKind_strs (strsAre_map _ hall)
  have hz : vs.toArray.zip vs.toArray = (vs.zip vs).toArray := by apply Array.ext'; simp
  rw [hkind, hz]
  refine wpAny_bind (wpAny_pure ?_)
  refine wpAny_bind (wpAny_mono (aq4 (s := { s with heap := ((s.heap.update a (Obj.mapSeq fun _ => #[])).push (seqObj "tuple" vs.toArray 0)).push (seqObj "list" #[] 0) }) (κ := oneType') (lo := C8) (J := SJ) ak9 (fun x q q' h1 h2 => Prod.ext (by obtain ⟨t, e1⟩ := h1.1; obtain ⟨t', e2⟩ := h2.1; exact ah1 (Value.str.inj (e1.symm.trans e2)).1) (h1.2.1.trans h2.2.1.symm))
   (fun x y q q' h1 h2 => by6 h1 h2) (ba8 r) (by simp; exact o5 _ (.k 1 I7 c8 .o) I7 c8 tt (Nat.le_of_not_lt h2))
   (Q := fun _ st' => failedOf st' = none ∧ ∃ L' rs', arrOf st' = L'.toArray ∧ Paired SJ L' rs' ∧ rs'.Perm (ks.map fun k => (k, 0)) ∧ rs'.Pairwise (fun a b => C8 b a = false)) fun st' L' rs' k1 k2 k3 k4 k5 => ⟨k1, L', rs', k2, k3, k4, k5⟩) ?_ fun _ _ e => e)
  rintro ⟨⟨⟩, st'⟩ s' ⟨rfl, hf, L', rs', k2, k3, k4, k5⟩
  dsimp only
  have hzz : (arrOf st').map (·.2) = (L'.map (·.2)).toArray := by rw [k2]; simp
  have hlen' : (L'.map (·.2)).length = ks.length := by rw [(aH1 (F := F) k3).length, List.length_map, List.length_map, k4.length_eq, List.length_map]
  refine wpAny_bind (seqEpoch_at ho6 rfl ?_)
  refine wpAny_bind (listUpdate_at ho6 rfl ?_ (Nat.zero_le _) (hsz2 := by show ((arrOf st').map (·.2)).size ≤ _; rw [hzz, List.size_toArray, hlen', sizeLine_eq]; exact o5 _ (.k 1 c8 (.num 10000) .o) c8 (.add (.num 16777216) k9) tt hlen))
  rw [hf]
  simp only [bne_self_eq_false, Bool.false_eq_true, if_false]
  refine wpAny_pure ?_
  show P _ { s with heap := sortedHeap s.heap a vs ((arrOf st').map (·.2)) }
  rw [hzz]
  refine h _ (rs'.map (·.1)) (aH1 k3) ?_ (List.pairwise_map.mpr (k5.imp fun h => of_decide_eq_false h))
  have := k4.map (·.1)
  rw [List.map_map] at this
  have e : (ks.map ((·.1) ∘ fun k => ((k, 0) : J6))) = ks := List.map_id ks
  rwa [e] at this
end
section
variable {G : Gl} {K : Sx} {A : Around} {env : Env} {ρ : List V} {σ : Ow} {F : Fz} {s : Shared} {E : Value → Shared → Prop} {e : PySem.Expr} {x z : V} {p q : Pos} {kvs : List (List Nat × Int)}
theorem aj3 {h : Heap} {a : Addr} {vs : List Value} {out : Array Value} {b : Addr} {o : Obj} (hb : b ≠ a) (e : h.get? b = some o) : (sortedHeap h a vs out).get? b = some o := by
 have hlt := Heap.lt_size e
 unfold sortedHeap
 rw [Heap.get?_update_ne _ _ _ _ hb]
 refine Heap.get?_push_of_some _ (Heap.get?_push_of_some _ ?_)
 rw [Heap.get?_update_ne _ _ _ _ hb]; exact e
theorem aG8 {d : Addr} {ps : List (Str × Value)} (lo : (d == sysModules) = false) (R : Rm G A F s) (hd : s.heap.DictOf (Kn G.prog G.w) d ps) (hk : KvR kvs ps) (hl : kvs.length ≤ 10000)
  (h : ∀ ks : List (List Nat), ks.Perm (kvs.map (·.1)) → ks.Pairwise (fun a b => ¬ b < a) → z = .lst (ks.map .str)) : wpAny G.M A (call (.builtin "sorted") [.ref d]) (PV G.x F s z) E s := by
 obtain ⟨ep, hda⟩ := hd.dictAt
 have hpl := hk.length
 refine Calls.call_function_entry kind_sorted plain_sorted entry_sorted (args_sorted1 _) ?_
 unfold Builtin.«sorted»
 refine wpAny_bind (m := checkCount "sorted" 1 1 _) (wpAny_pure ?_)
 refine wpAny_bind (aD1 lo R.handled hda (by rw [hpl, bm4]; exact aw3 hl) fun h₁ tk vs keep hvl hv => ?_)
 have rl : RelL F (kvs.map fun r => .str r.1) vs := aB6 hk (hvl.trans hpl) hv
 have rl : RelL F ((kvs.map (·.1)).map V.str) vs := by rw [List.map_map]; exact rl
 refine wpAny_bind (wpAny_newList ?_ (by rw [sizeLine_eq, hvl, hpl]; exact aw3 hl))
 have hoL : (h₁.push (seqObj "list" vs.toArray 0)).get? h₁.objs.size = some (seqObj "list" vs.toArray 0) := Heap.get?_push_size _ rfl
 show wpAny _ _ _ _ _ { s with heap := h₁.push (seqObj "list" vs.toArray 0), toks := tk }
 refine wpAny_bind (wpAny_holding (wpAny_call_entry slot_list_sort ⟨_, hoL, rfl⟩ entry_list_sort (aR0 (s := { s with heap := h₁.push (seqObj "list" vs.toArray 0), toks := tk }) hoL rl (by rw [List.length_map]; exact hl) fun out ks a1 a2 a3 => ⟨_, rfl, ?_⟩) (args_list_sort _)))
 refine wpAny_pure ⟨_, rfl, ?_⟩
 cases h ks a2 a3
 have hnew : s.heap.get? h₁.objs.size = none := by
  cases q : s.heap.get? h₁.objs.size with
  | none => rfl
  | some o => exact nS ((j9 h₁).symm.trans (keep _ _ q))
 have hkeep : ∀ b o, s.heap.get? b = some o → (sortedHeap (h₁.push (seqObj "list" vs.toArray 0)) h₁.objs.size vs out.toArray).get? b = some o := fun b o e => aj3 (by rintro rfl; exact nS (hnew.symm.trans e)) (Heap.get?_push_of_some _ (keep b o e))
 obtain ⟨e, he⟩ : ∃ e, (sortedHeap (h₁.push (seqObj "list" vs.toArray 0)) h₁.objs.size vs out.toArray).get? h₁.objs.size = some (seqObj "list" out.toArray e) := by
  unfold sortedHeap
  obtain ⟨e1, ho1⟩ : ∃ e1, ((h₁.push (seqObj "list" vs.toArray 0)).update h₁.objs.size (Obj.mapSeq fun _ => #[])).get? h₁.objs.size = some (seqObj "list" #[] e1) := ⟨_, get?_update_seq hoL (fun _ => #[])⟩
  exact ⟨_, get?_update_seq (Heap.get?_push_of_some _ (Heap.get?_push_of_some _ ho1)) _⟩
 exact ⟨_, (St.grow (t := tk) R.sub hkeep).freeze hnew he (R.out hnew), _, out, rfl, ⟨e, Fz.add_self⟩, a1.mono fun a o e => (if_neg (by rintro rfl; exact nS (hnew.symm.trans (R.sub _ _ e)))).trans e⟩
theorem Q6 (h : Dc G σ kvs x) (hsy : ∃ o, G.B.get? sysModules = some o) (h1 : Ev G K ρ σ e x) (hl : kvs.length ≤ 10000) (hz : ∀ ks : List (List Nat), ks.Perm (kvs.map (·.1)) → ks.Pairwise (fun a b => ¬ b < a) → z = .lst (ks.map .str)) (hs : f0 e = true := by rfl) (hg : j8 K "sorted" = true := by decide +kernel) : Ev G K ρ σ (.Call (.Name "sorted" q) [e] [] p) z :=
 ar7 7 rfl hg (by rw [List.all_cons, hs]; rfl) (b8 h1 b9) fun A env F s E vs k rv => by
  obtain ⟨u, rfl, ru⟩ := ag0 rv
  obtain ⟨b, ps, rfl, hd, hk, hb⟩ := h.at hsy k ru
  exact aG8 hb k.rm hd hk hl hz
end
theorem aB9 {F : Fz} : ∀ {ns : List Int} {vs : List Value}, RelL F (ns.map .int) vs → IntsAre vs ns
 | [], _, rfl => .nil
 | _ :: _, _, ⟨_, _, rfl, ⟨t, rfl⟩, r⟩ => .cons _ t (aB9 r)
section
variable {G : Gl} {K : Sx} {ρ : List V} {σ : Ow} {e : PySem.Expr} {p q : Pos} {ns : List Int} {m : Int}
theorem bB3 (h1 : Ev G K ρ σ e (.lst (ns.map .int))) (hM : m ∈ ns) (hU : ∀ a ∈ ns, a ≤ m) (hs : f0 e = true := by rfl) (hg : j8 K "max" = true := by decide +kernel) : Ev G K ρ σ (.Call (.Name "max" q) [e] [] p) (.int m) :=
 ar7 14 rfl hg (by rw [List.all_cons, hs]; rfl) (b8 h1 b9) fun A env F s E vs k rv => by
  obtain ⟨u, rfl, ru⟩ := ag0 rv
  obtain ⟨a, us, rfl, hl, _, rl⟩ := J5 k.rm ru
  have hi := aB9 rl
  obtain ⟨xs, e⟩ := hi.allInts.items
  have hns : ns = xs.toList.map (·.1) := by rw [← hi.numsOf, ← nums_intItems, ← e]
  have hsz : 0 < xs.size := by
   have h3 := List.length_pos_of_mem hM
   rw [hns, List.length_map, Array.length_toList] at h3; exact h3
  rw [e] at hl
  refine max_intList k.rm.handled hl hsz fun v h' tk hv hk => ?_
  obtain ⟨t, rfl⟩ := intItems_at hv
  obtain ⟨h1, h2⟩ := argBest_gt (numAt xs) (xs.size - 1)
  have e1 : numAt xs (argBest (fun i j => decide (numAt xs i > numAt xs j)) (xs.size - 1)) = m := by
   refine Int.le_antisymm (hU _ ?_) ?_
   ·rw [hns, numAt_eq]; exact getD_mem (by rw [List.length_map, Array.length_toList]; exact z3 _ _ _ (.k 1 c8 d5 (.k 1 y0 e9 .o)) i9 e9 tt h1 (F1 (o5 _ (.k 1 (.add w9 k9) c8 .o) k9 c8 tt hsz)))
   ·rw [hns] at hM
    obtain ⟨j, hj, rfl⟩ := mem_getD hM
    rw [List.length_map, Array.length_toList] at hj
    rw [← numAt_eq]; exact h2 j (by exact a9 hj)
  rw [e1]
  exact ⟨F, St.grow (t := tk) k.rm.sub hk, t, rfl⟩
end
noncomputable abbrev Gl.ex (G : Gl) : Gl := ⟨G.prog, G.w, G.B, G.mg, G.mb, G.d, true⟩
theorem St.to {D : Addr → Prop} {F F' : Fz} {s s' : Shared} (S : St true D F s F' s') {X : Bool} : St X D F s F' s' := by cases X; exact S.no; exact S
theorem Rm.ex {G : Gl} {A : Around} {F : Fz} {s : Shared} (R : Rm G A F s) : Rm G.ex A F s := ⟨⟨R.go.g, R.go.b, R.go.nolimit, R.go.blt⟩, R.base, R.sub, R.depth, R.units, R.handled, R.frames⟩
theorem Pure.of_ex {G : Gl} {f : Str} {xs : List V} {z : V} (h : Pure G.ex f xs z) : Pure G f xs z :=
 ⟨h.is, fun A F s E vs R r => wpAny_mono (h.run A F s E vs R.ex r) (fun v s' q => q.casesOn fun F' S r => ⟨F', S.to, r⟩) fun _ _ e => e⟩
def IXt (G : Gl) (C : Addr) (c : Value) (b : Bool) : Prop := ∀ A s E (Q : Value → Shared → Prop) e oe, (∀ a o, G.B.get? a = some o → s.heap.get? a = some o) → s.heap.get? e = some oe → oe.cls = .ref C → (∀ tk, Q (.bool b) { s with toks := tk }) → wpAny G.M A (call (.builtin "isinstance") [.ref e, c]) Q E s
section
variable {G : Gl} {x t : Str} {C T : Addr} {c : Value} {b : Bool}
theorem IX.all (h : IX G C c b) : IXt G C c b := fun A s E Q e oe hB he hc hq => h A s E Q e oe hB he hc (hq s.toks)
theorem bH6 (X : XC G x C) (P : ClsP G.mg G.B x) (XT : XC G t T) (hno : O7 G.mg G.B x t false) : IXt G C (.ref T) false := fun A s E Q e oe hB he hcls hq =>
 call_isinstance_of (bC8 X P XT hno (e := e) 0 0 G.prog G.w A (fun r s' => match r with | .ok (.ret v) => Q v s' | .ok _ => False | .error e => E e s') s ⟨⟨hB, oe, he, hcls⟩, fun tk => hq tk⟩) (by intro e; cases e)
end
theorem bv6 : sizeLine = 16777216 := rfl
theorem bw9 {M : Model} {A : Around} {env : Env} {s : Shared} {E : Value → Shared → Prop} {e : PySem.Expr} {es : List PySem.Expr} {n : Str} {id : String} {ap p : Pos} {Q : Value → Shared → Prop} (hn : ∀ n env t, attributeBase e n env t = t) (hl : (ap.endLine == p.line) = true) (hs : es.all f0 = true) (h8 : es.length < 8)
  (h : wpAny M A (eval e env) (fun v s₁ => (∀ pl (R : Value × List Value → Shared → Prop), R (.builtin id, [v]) s₁ → wpAny M A (getMethod v n pl) R E s₁) ∧ wpAny M A (spliced (es.map fun e => (false, eval e env))) (fun vs s₂ => wpAny M A (call (.builtin id) (v :: vs)) Q E s₂) E s₁) E s) : wpAny M A (eval (.Call (.Attribute e n ap) es [] p) env) Q E s := by
 rw [arm_eval_Call]
 rw [hn]
 refine wpAny_bind (wpAny_mono h (fun v s₁ q => wpAny_bind (wpAny_standAt ?_)) fun _ _ e => e)
 rw [m6 p env hs]
 have hform : methodCallForm (es.length + ([] : List Keyword).length) (es.map fun e => (false, eval e env)) (backToKw p (keywordEach [] env)) = true := by
  show ((es.map fun e => (false, eval e env)).all (fun x => !x.1) && true && decide (es.length + 0 + 0 < 30)) = true
  rw [o8, decide_eq_true (by exact a7 h8)]; rfl
 have hpos : methodCallPos true e env ap p = pure p := by unfold methodCallPos; simp [hl]
 unfold methodCall
 rw [hform]
 exact wpAny_bind (wpAny_holding (q.1 _ _ (wpAny_bind (wpAny_of_eq hpos (Calls.callWith_builtin (K6 es env) (l8 (o8 es env) q.2))))))
structure Wf (G : Gl) (K : Sx) (env : Env) (e C a : Addr) (ys : List Str) (F : Fz) (s₀ s : Shared) : Prop where
 g : SG G K env F s
 loc : ∃ m, s.heap.Ns env.locals m ∧ m "_law_e" = some (.ref e) ∧ m "_law_words" = some (.ref a)
 exc : ∃ oe ws, s.heap.get? e = some oe ∧ oe.cls = .ref C ∧ oe.data = .fields ws
 lst : ∃ vs n, s.heap.get? a = some (z7 vs n) ∧ StrsAre vs ys
 new : s₀.heap.get? a = none
 fa : F a = none
 kp : ∀ b o, s₀.heap.get? b = some o → s.heap.get? b = some o
 ex0 : ∃ o, s₀.heap.get? e = some o
 rest : s = { s₀ with heap := s.heap, toks := s.toks }
section
variable {G : Gl} {K : Sx} {A : Around} {env : Env} {e C a : Addr} {ys : List Str} {F : Fz} {s₀ s : Shared} {E : Value → Shared → Prop} {c : Value} {b : Bool} {t w : Str}
theorem Wf.tok (k : Wf G K env e C a ys F s₀ s) (tk : Nat) : Wf G K env e C a ys F s₀ { s with toks := tk } := ⟨⟨k.g.go, k.g.base, k.g.sub, k.g.sc, k.g.kind, k.g.globals, k.g.builtins⟩, k.loc, k.exc, k.lst, k.new, k.fa, k.kp, k.ex0, by rw [k.rest]⟩
theorem Wf.name (k : Wf G K env e C a ys F s₀ s) {n : Str} {v : Value} {p : Pos} {Q : Value → Shared → Prop} (hv : ∀ m : Str → Option Value, m "_law_e" = some (.ref e) → m "_law_words" = some (.ref a) → m n = some v) (hn : U2 K n = true) (h : Q v s) : wpAny G.M A (eval (.Name n p) env) Q E s := by
 obtain ⟨m, hm, h1, h2⟩ := k.loc
 have hn := Bool.and_eq_true_iff.mp hn
 exact wpAny_Name (wpAny_loadName_local k.g.kind (by show env.scope.names.lookup n = _; rw [k.g.sc]; exact eq_of_beq hn.1) hm (hv m h1 h2) h) ((Bool.not_eq_true' _).mp hn.2)
theorem aM0 (hi : IXt G C c b) (hv : G.mg t = some c ∨ (G.mg t = none ∧ G.mb t = some c)) (k : Wf G K env e C a ys F s₀ s) {q q₁ q₂ p : Pos} {Q : Value → Shared → Prop} (h : ∀ tk, Q (.bool b) { s with toks := tk }) (hn : U2 K "_law_e" = true) (h1 : j8 K "isinstance" = true) (h2 : j8 K t = true) :
  wpAny G.M A (eval (.Call (.Name "isinstance" q) [.Name "_law_e" q₁, .Name t q₂] [] p) env) Q E s := by
 refine wpAny_Call_NameR (k.g.glob (.inr (k.g.go.blt 1 _ _ rfl)) h1 ?_)
 rw [m6 p env rfl]
 obtain ⟨oe, ws, he, hc, _⟩ := k.exc
 exact Calls.callWith_builtin (K6 [_, _] env) (l8 (o8 [_, _] env) (Calls.spliced_cons (k.name (fun m h _ => h) hn (Calls.spliced_cons (k.g.glob hv h2 (Calls.spliced_nil (hi A s E _ e oe k.g.in he hc h)))))))
theorem aq3 : ∀ {vs : List Value} {ys : List Str} {w : Str} {t : Tok}, StrsAre vs ys → StrsAre (vs ++ [.str w t]) (ys ++ [w])
 | _, _, w, t, .nil => .cons w t .nil
 | _, _, _, _, .cons y u r => .cons y u (aq3 r)
theorem ay6 : ∀ {vs : List Value} {ys : List Str}, StrsAre vs ys → vs.length = ys.length
 | _, _, .nil => rfl
 | _, _, .cons y u r => congrArg (· + 1) (ay6 r)
theorem ai4 {q q₁ q₂ q₃ p p₁ p₂ pw ap : Pos} {kc : Nat} {p₃ : Pos} {ss : List Stmt} (hi : IXt G C c b) (hv : G.mg t = some c) (k : Wf G K env e C a ys F s₀ s) (hl : ys.length ≤ 100) {Q : Flow → Shared → Prop} (h : ∀ s', Wf G K env e C a (ys ++ if b then [w] else []) F s₀ s' → wpAny G.M A (execs ss env) Q E s')
  (hn : U2 K "_law_e" = true := by decide +kernel) (hn' : U2 K "_law_words" = true := by decide +kernel) (h1 : j8 K "isinstance" = true := by decide +kernel) (h2 : j8 K t = true := by decide +kernel) (hap : (ap.endLine == p₁.line) = true := by rfl) :
  wpAny G.M A (execs (.If (.Call (.Name "isinstance" q) [.Name "_law_e" q₁, .Name t q₂] [] p) [.Expr (.Call (.Attribute (.Name "_law_words" q₃) "append" ap) [.Constant (.str w) kc pw] [] p₁) p₂] [] p₃ :: ss) env) Q E s := by
 refine wpAny_execs_cons (wpAny_If ?_)
 rw [Q3 rfl]
 refine wpAny_bind (aM0 hi (.inl hv) k (fun tk => ?_) hn h1 h2)
 have k₁ := k.tok tk
 refine wpAny_bind (wpAny_standAt (wpAny_holding (wpAny_truthy_bool ?_)))
 cases b with
 | false => exact wpAny_execs_nil (h _ (by simpa using k₁))
 | true =>
  refine wpAny_execs_cons (wpAny_Expr_any ?_ (by unfold interactive; rw [k.g.kind]; rfl) rfl)
  obtain ⟨vs, n, ha, hst⟩ := k₁.lst
  refine bw9 (id := "list.append") (fun _ _ _ => rfl) hap rfl (Nat.lt_of_sub_eq_succ rfl) (k₁.name (v := .ref a) (fun m _ h => h) hn' ⟨fun pl R q => Calls.getMethod_list_append ha rfl rfl q, ?_⟩)
  refine Calls.spliced_cons (x := eval (PySem.Expr.Constant (.str w) kc pw) env) (rest := []) (Calls.Constant_str (Calls.spliced_nil ?_))
  refine wpAny_list_append_plain ⟨n, ha⟩ (fun h' hp hs => ?_) (by rw [List.size_toArray, bv6, ay6 hst]; exact bt2 hl)
  obtain ⟨n', hp⟩ := hp
  refine wpAny_execs_nil (h _ ?_)
  have ext : ∀ b o, b ≠ a → s.heap.get? b = some o → h'.get? b = some o := fun b o hb e => hs.extBut b o hb e
  obtain ⟨m, hm, h3, h4⟩ := k.loc
  obtain ⟨oe, ws, he, hc, hd⟩ := k.exc
  have nea : ∀ {b o}, s₀.heap.get? b = some o → b ≠ a := fun q => by rintro rfl; exact nS (k.new.symm.trans q)
  have hea : e ≠ a := k.ex0.elim fun _ q => nea q
  have hLa : env.locals ≠ a := by
   rintro rfl
   obtain ⟨o, es, ep, ho, hdd, _⟩ := hm
   cases ha.symm.trans ho
   cases hdd
  have hFa : ∀ b o, F b = some o → b ≠ a := fun b o e => by rintro rfl; exact nS (k.fa.symm.trans e)
  exact ⟨⟨k.g.go, k.g.base, fun b o e => ext b o (hFa b o e) (k.g.sub b o e), k.g.sc, k.g.kind, k.g.globals, k.g.builtins⟩, ⟨m, hm.sameBut hs hLa, h3, h4⟩, ⟨oe, ws, ext e oe hea he, hc, hd⟩, ⟨vs ++ [.str w tk], n', by rw [hp]; simp [z7], aq3 hst⟩, k.new, k.fa, fun b o e => ext b o (nea e) (k.kp b o e), k.ex0, by rw [k.rest]⟩
theorem bx8 {q q' p : Pos} {ss : List Stmt} {Q : Flow → Shared → Prop} (g : SG G K env F s) (loc : ∃ m, s.heap.Ns env.locals m ∧ m "_law_e" = some (.ref e)) (exc : ∃ oe ws, s₀.heap.get? e = some oe ∧ oe.cls = .ref C ∧ oe.data = .fields ws) (hF : ∀ a o, F a = some o → s₀.heap.get? a = some o) (kp : ∀ b o, s₀.heap.get? b = some o → s.heap.get? b = some o) (hL : s₀.heap.get? env.locals = none) (rest : s = { s₀ with heap := s.heap, toks := s.toks })
  (h : ∀ a s', Wf G K env e C a [] F s₀ s' → wpAny G.M A (execs ss env) Q E s') (hn : U2 K "_law_words" = true := by decide +kernel) : wpAny G.M A (execs (.Assign [.Name "_law_words" q] (.List [] q') p :: ss) env) Q E s := by
 obtain ⟨m, hm, he⟩ := loc
 obtain ⟨oe, ws, ho, hc, hd⟩ := exc
 have hnl : env.kindOf "_law_words" = some .local := by show env.scope.names.lookup _ = _; rw [g.sc]; exact eq_of_beq (Bool.and_eq_true_iff.mp hn).1
 have hp : (env.scope.kind == .class || (env.scope.kind == .module && env.locals != env.globals)) = false := by rw [g.kind]; rfl
 have none₀ : s₀.heap.get? s.heap.objs.size = none := by
  cases q : s₀.heap.get? s.heap.objs.size with
  | none => rfl
  | some o => exact nS ((j9 s.heap).symm.trans (kp _ _ q))
 refine wpAny_execs_cons (wpAny_Assign_Name (List_ (Calls.spliced_nil (wpAny_newObj_type ?_ (Nat.zero_le _)))) rfl)
 have hm' : (s.heap.push (z7 [] 0)).Ns env.locals m := hm.push _
 refine wpAny_storeName_local hnl hm' (fun h₃ hn₃ hs₃ => ?_) hp
 have hLs : env.locals ≠ s.heap.objs.size := by
  intro e
  obtain ⟨o, es, ep, ho', _⟩ := hm
  rw [e] at ho'
  exact nS ((j9 s.heap).symm.trans ho')
 have ext : ∀ b o, b ≠ env.locals → s.heap.get? b = some o → h₃.get? b = some o := fun b o hb e => hs₃.extBut b o hb (Heap.get?_push_of_some _ e)
 have neL : ∀ {b o}, s₀.heap.get? b = some o → b ≠ env.locals := fun q => by rintro rfl; exact nS (hL.symm.trans q)
 exact h s.heap.objs.size _ ⟨⟨g.go, g.base, fun b o q => ext b o (neL (hF b o q)) (g.sub b o q), g.sc, g.kind, g.globals, g.builtins⟩, ⟨_, hn₃, (if_neg (by decide +kernel)).trans he, if_pos rfl⟩, ⟨oe, ws, ext e oe (neL ho) (kp _ _ ho), hc, hd⟩, ⟨[], 0, hs₃.extBut _ _ (fun e => hLs e.symm) (Heap.get?_push_size _ rfl), .nil⟩, none₀,
  (by cases q : F s.heap.objs.size with | none => rfl | some o => exact nS (none₀.symm.trans (hF _ _ q))), fun b o q => ext b o (neL q) (kp b o q), ⟨_, ho⟩, by rw [rest]⟩
theorem bx7 {q q₁ q₂ q₃ p p₁ p₂ pr pc ap : Pos} {kc n : Nat} {cs : List Nat} {Q : Flow → Shared → Prop} {X : Bool} (hi : IXt G C (.type "ValueError") true) (hV : G.mg "ValueError" = none ∧ G.mb "ValueError" = some (.type "ValueError")) (k : Wf G K env e C a ys F s₀ s) (hw : (ys.map (·.length)).sum ≤ 10000) (hj : Txt.join ("" : Str) ys = txt cs) (hF : ∀ a o, F a = some o → s₀.heap.get? a = some o)
  (h : ∀ v s', PV X F s₀ (.tup [.str cs, .bool true]) v s' → Q (.ret v) s') (hn : U2 K "_law_e" = true := by decide +kernel) (hn' : U2 K "_law_words" = true := by decide +kernel) (h1 : j8 K "isinstance" = true := by decide +kernel) (h2 : j8 K "ValueError" = true := by decide +kernel) (hap : (ap.endLine == p₁.line) = true := by rfl) :
  wpAny G.M A (execs [.Return (some (.Tuple [.Call (.Attribute (.Constant (.str "") kc pc) "join" ap) [.Name "_law_words" q₃] [] p₁, .Call (.Name "isinstance" q) [.Name "_law_e" q₁, .Name "ValueError" q₂] [] p] n p₂)) pr] env) Q E s := by
 refine wpAny_execs_cons (wpAny_Return_some (Tuple_ ?_))
 rw [m6 p₂ env rfl]
 refine Calls.spliced_cons (bw9 (id := "str.join") (fun _ _ _ => rfl) hap rfl (Nat.lt_of_sub_eq_succ rfl) (Calls.Constant_str ⟨fun pl R q => GM.join q, ?_⟩))
 have k₁ := k.tok (s.toks + 1)
 refine Calls.spliced_cons (x := eval (PySem.Expr.Name "_law_words" q₃) env) (rest := []) (k₁.name (v := .ref a) (fun m _ h => h) hn' (Calls.spliced_nil ?_))
 obtain ⟨vs, m, ha, hst⟩ := k₁.lst
 refine join_list (D := a) (items := vs.toArray) ⟨_, ha, rfl, m, rfl⟩ (by simpa using hst) (by show _ + _ * 0 ≤ _; exact bR3 hw) fun t' tk => ?_
 refine Calls.spliced_cons (aM0 hi (.inr hV) (k.tok tk) (fun tk' => Calls.spliced_nil ?_) hn h1 h2)
 have k₂ := k.tok tk'
 refine wpAny_newObj_type (h _ _ ?_) (by show 2 ≤ _; rw [bv6]; exact W3 )
 rw [hj]
 have S : St X N0 F s₀ F { s with toks := tk' } := by
  have := St.grow (X := X) (D := N0) (h' := s.heap) (t := tk') hF k.kp
  rw [k.rest]; exact this
 have fz : F s.heap.objs.size = none := by
  cases q : F s.heap.objs.size with
  | none => rfl
  | some o => exact nS ((j9 s.heap).symm.trans (k.g.sub _ _ q))
 have S₂ : St X N0 F { s with toks := tk' } _ { s with heap := s.heap.push (an9 [.str (txt cs) t', .bool true] 0), toks := tk' } := (St.grow (s := { s with toks := tk' }) (t := tk') k.g.sub fun _ _ e => Heap.get?_push_of_some _ e).freeze (j9 _) (Heap.get?_push_size _ rfl) fz
 exact ⟨_, S.trans S₂, _, _, rfl, ⟨0, Fz.add_self⟩, _, _, rfl, ⟨_, rfl⟩, _, _, rfl, rfl, rfl⟩
theorem aZ5 {fa : Addr} {sts : List Stmt} {Q : Value → Shared → Prop} (FA : FnO G.B fa K 1 sts) (hK : K.ns.take 1 = [(("_law_e" : Str))]) (go : G.Ok) (base : ∀ a o, G.B.get? a = some o → F a = some o) (sub : ∀ a o, F a = some o → s.heap.get? a = some o) (hd : A.depth < recursionLimit)
  (body : ∀ A env s₁, SG G K env F s₁ → (∃ m, s₁.heap.Ns env.locals m ∧ m "_law_e" = some (.ref e)) → (∀ b o, s.heap.get? b = some o → s₁.heap.get? b = some o) → s.heap.get? env.locals = none → s₁ = { s with heap := s₁.heap, toks := s₁.toks } → wpAny G.M A (execs sts env) (fun f s' => ∃ v, f = .ret v ∧ Q v s') (fun _ _ => False) s₁) (hn : U2 K "_law_e" = true := by decide +kernel) :
  wpAny G.M A (call (.ref fa) [.ref e]) Q E s := by
 obtain ⟨⟨o, fd, ho, hdat, hcd, hbody, hclo, hglob, hblt, hbind, hsc⟩, chk⟩ := FA
 unfold af3 at chk
 simp only [Bool.and_eq_true, Bool.not_eq_true', beq_iff_eq, decide_eq_true_eq] at chk
 obtain ⟨⟨⟨⟨⟨⟨hco, hgen⟩, hk⟩, hkinds⟩, hcn⟩, hnd⟩, hnp⟩ := chk
 have hin : ∀ a o, G.B.get? a = some o → s.heap.get? a = some o := fun a o q => sub a o (base a o q)
 have hl : K.sc.names.lookup ("_law_e" : Str) = some .local := eq_of_beq (Bool.and_eq_true_iff.mp hn).1
 have hb := hbind [.ref e] rfl
 rw [hK] at hb
 rw [← hsc] at hco hgen hk hl
 refine wpAny_call (codeAny_call_cells hd (hin _ _ ho) hdat (go.nolimit.keeps hin) (hcd.keeps hin) hbody hb hclo (fun x hx => ?_) (fun s₁ x => ?_) hco hgen hk)
 ·cases hx with
  | head => exact .inl hl
  | tail _ q => cases q
 ·have ns := x.toInCall.ns
  obtain ⟨h₁, tk, rfl⟩ := x.toInCall.same
  refine wpAny_mono (body _ _ _ ⟨go, base, fun a o q => x.toInCall.keep _ _ (sub a o q), hsc, hk, hglob, hblt⟩ ⟨_, ns, ?_⟩ x.toInCall.keep (j9 _) rfl) (fun f s' q => ?_) fun _ _ q => q.elim
  ·show (if fd.scope.names.lookup ("_law_e" : Str) = some NameKind.local then (fun y => if y = ("_law_e" : Str) then some (Value.ref e) else none) else fun _ => none) ("_law_e" : Str) = _
   rw [if_pos hl]; exact if_pos rfl
  ·obtain ⟨v, rfl, q⟩ := q; exact q
end
section
variable {G : Gl} {K : Sx} {A : Around} {env : Env} {ρ : List V} {σ : Ow} {F : Fz} {s : Shared} {E : Value → Shared → Prop} {Q : KS} {ss body : List Stmt} {C T : Addr} {p np pos : Pos} {x t n : Str} {hs : List ExceptHandler} {z : V}
def ax0 (G : Gl) (K : Sx) (n : Str) (C : Addr) (ss : List Stmt) (z : V) : Prop := ∀ A env e F s E, A.depth + G.d ≤ recursionLimit → SOk G K env n e C F s → wpAny G.M A (execs ss env) (fun f s' => ∃ v, f = .ret v ∧ PV G.x F s z v s') E s
theorem br5 {b₀ : Stmt} {suite : List Stmt} {e : Addr} {ρ₁ : List V} {σ₁ : Ow} {F₁ F' : Fz} {s₁ s' : Shared} {B : Heap} {a0 : Value} {outer : List Env} (X : XC G x C) (X' : XC G t T) (hm : O7 G.mg G.B x t) (H₂ : Hld G K A env σ F s e ρ₁ σ₁ F₁ s₁ F' B outer s') (hfl : Heap.FlyingW B (env :: outer) e (.ref C) a0 s'.heap) (hA : A.depth + G.d ≤ recursionLimit)
  (hsuite : ax0 G K n C (b₀ :: suite) z) (hq : ∀ σ, Q (.ret z) (List.replicate K.ns.length .unb) σ) (hn : U2 K n = true) (hg : j8 K t = true) (hx : G.x = false) :
  wpAny G.M A (handleBy (.ref e) env (.ExceptHandler (some (.Name t np)) (some n) (b₀ :: suite) pos :: hs)) (PS G K A env σ F s Q) E s' := by
 have k₂ := H₂.k.step (H₂.S.at hx)
 obtain ⟨oe, vs, he, hc, _⟩ := hfl.first
 have hnl : env.kindOf n = some .local := by show env.scope.names.lookup n = _; rw [k₂.e.sc]; exact eq_of_beq (Bool.and_eq_true_iff.mp hn).1
 have hp : (env.scope.kind == .class || (env.scope.kind == .module && env.locals != env.globals)) = false := by rw [k₂.e.kind]; rfl
 refine wpAny_handleBy_cons (codeAny_handlers_test (k₂.sg.glob (.inl X'.own.bound) hg ?_)) (by intro q; cases q)
 obtain ⟨xq7, hC, _, _, _⟩ := ax8 X
 obtain ⟨xq8, hC', _, _, T'⟩ := ax8 X'
 replace T' := OwnTailQ.tail T'
 refine bq0 (k₂.e.rm.in _ _ hC) (k₂.e.rm.in _ _ hC') he hc (T'.hasType (by decide +kernel)) ?_ (codeAny_handlers_suite_as ?_)
 ·obtain ⟨C₁, T₁, o, cd, h1, h2, h3, h4, h5⟩ := hm
  cases X.own.bound.symm.trans h1
  cases X'.own.bound.symm.trans h2
  cases hC.symm.trans h3
  cases h4
  exact h5
 ·refine lands_againW hfl fun h₂ hfl₂ u₂ => ?_
  have H₂ := H₂.turn hfl₂.1 u₂
  have k₂ := H₂.k.step (H₂.S.at hx)
  obtain ⟨m, hm, _⟩ := k₂.e.loc.vars
  obtain ⟨oe₂, vs₂, he₂, hc₂, hd₂, _⟩ := hfl₂.first
  refine wpAny_storeName_local hnl hm (fun h₃ hn₃ hs₃ => ?_) hp
  obtain ⟨k₃, L₃⟩ := k₂.forget (t := s'.toks + 1) hn₃ hs₃
  have he₃ : h₃.get? e = some oe₂ := hs₃.extBut e oe₂ (by rintro rfl; obtain ⟨o, es, ep, ho, hdd, _⟩ := hm; rw [he₂] at ho; cases ho; rw [hd₂] at hdd; cases hdd) he₂
  have K₃ : SOk G K env n e C F' { s' with heap := h₃, toks := s'.toks + 1 } := ⟨k₃.sg, ⟨_, hn₃, if_pos rfl⟩, oe₂, vs₂, he₃, hc₂, hd₂⟩
  refine wpAny_mono (hsuite _ env e F' _ _ hA K₃) (fun f s₄ q => ?_) fun _ _ e => e
  obtain ⟨v, rfl, F₄, S₄, r₄⟩ := q
  obtain ⟨m₄, hm₄, _⟩ := (K₃.step S₄).loc
  refine wpAny_nameGoes hnl hm₄ hp fun h₅ m₅ hn₅ hs₅ => ?_
  obtain ⟨k₅, L₅⟩ := (k₃.step S₄).forget (t := s₄.toks + 1) hn₅ hs₅
  exact ⟨.ret z, _, σ₁, F₄, r₄, k₅, ((((H₂.l.trans (H₂.S.at hx).lk).trans L₃).trans S₄.lk).trans L₅), hq σ₁⟩
theorem bl0 {b₀ : Stmt} {suite : List Stmt} (hx : G.x = false) (hb : WR G K body ρ σ C) (X : XC G x C) (X' : XC G t T) (hm : O7 G.mg G.B x t) (hsuite : ax0 G K n C (b₀ :: suite) z) (hq : ∀ ρ σ, Q (.ret z) ρ σ) (hn : U2 K n = true := by decide +kernel) (hg : j8 K t = true := by decide +kernel) :
  WS G K (.Try body (.ExceptHandler (some (.Name t np)) (some n) (b₀ :: suite) pos :: hs) [] [] p :: ss) ρ σ Q :=
 w4 fun A env F s E k => wpAny_Try_except (wpAny_mono (hb A env F s k) (fun _ _ q => q.elim) fun v s₁ q => at9 q fun e ρ₁ σ₁ F₁ s₁ F' B L outer a0 h₁ hv hf H hh => by
  subst hv
  refine wpAny_landsW hh fun h₂ hfl u => ?_
  exact br5 X X' hm (H.turn hfl.1 u) hfl k.e.rm.depth hsuite (fun σ => hq _ σ) hn hg hx)
theorem bB8 {f : Str} {q q₁ pc pr : Pos} (hf : G.mg f = some (.ref (G.fn f))) (ho : ∃ o fd, G.B.get? (G.fn f) = some o ∧ o.data = .func fd) (hd : 0 < G.d)
  (h : ∀ A e F s E, G.Ok → (∀ a o, G.B.get? a = some o → F a = some o) → (∀ a o, F a = some o → s.heap.get? a = some o) → A.depth < recursionLimit → (∃ oe vs, s.heap.get? e = some oe ∧ oe.cls = .ref C ∧ oe.data = .fields vs) → wpAny G.M A (call (.ref (G.fn f)) [.ref e]) (PV G.x F s z) E s)
  (hn : U2 K n = true := by decide +kernel) (hg : j8 K f = true := by decide +kernel) : ax0 G K n C [.Return (some (.Call (.Name f q) [.Name n q₁] [] pc)) pr] z := fun A env e F s E hA k => by
 refine wpAny_execs_cons (wpAny_Return_some (wpAny_Call_NameR (k.g.glob (.inl hf) hg ?_)))
 rw [m6 pc env rfl]
 obtain ⟨m, hm, h1⟩ := k.loc
 obtain ⟨o, fd, ho, hfd⟩ := ho
 have hn := Bool.and_eq_true_iff.mp hn
 refine Calls.callWith_function (l8 (o8 [_] env) (Calls.spliced_cons (x := eval (PySem.Expr.Name n q₁) env) (rest := []) (wpAny_Name (wpAny_loadName_local k.g.kind (by show env.scope.names.lookup n = _; rw [k.g.sc]; exact eq_of_beq hn.1) hm h1 (Calls.spliced_nil ⟨⟨k.g.in _ _ ho, hfd⟩, ?_⟩)) ((Bool.not_eq_true' _).mp hn.2))))
 exact wpAny_mono (h A e F s E k.g.go k.g.base k.g.sub (by exact z3 _ _ _ (.k 1 (.add c8 d5) e9 (.k 1 (.add w9 k9) d5 .o)) i9 e9 tt hA hd) k.exc) (fun v s' q => ⟨v, rfl, q⟩) fun _ _ e => e
end
end Mine
namespace Mine
open PySem PySem.W PyProof.Rows
noncomputable def Oc.plain : Oc → Bool
 | .gen _ => false
 | _ => true
theorem OcR.mode {X X' : Bool} {F : Fz} {o : Obj} : ∀ {c : Oc}, c.plain = true → OcR X F o c → OcR X' F o c
 | .lst _, _, h => h
 | .ro _, _, h => h
 | .tr _ _ _, _, h => h
 | .gen _, h, _ => nomatch h
noncomputable abbrev Gl.wx (G : Gl) (X : Bool) : Gl := ⟨G.prog, G.w, G.B, G.mg, G.mb, G.d, X⟩
theorem Rm.wx {G : Gl} {A : Around} {F : Fz} {s : Shared} {X : Bool} (R : Rm G A F s) : Rm (G.wx X) A F s := ⟨⟨R.go.g, R.go.b, R.go.nolimit, R.go.blt⟩, R.base, R.sub, R.depth, R.units, R.handled, R.frames⟩
def bE5 (X X' : Bool) (σ σc : Ow) : Prop := ∀ a c, σc a = some c → ∃ c', σ a = some c' ∧ (c.rw = true → c'.rw = true) ∧ ∀ F o, OcR X F o c' → OcR X' F o c
open Classical in
noncomputable def σn (σc σ : Ow) : Ow := fun a => if σc a = none then σ a else none
def bn4 (mk : Addr → V) (zs : List V) : KS := fun fl _ σ => ∃ a, fl = .ret (mk a) ∧ σ a = some (.lst zs)
abbrev bu1 (σ : Ow) (mk : Addr → V) (zs : List V) : V → Ow → Prop := fun x σ' => ∃ a, σ a = none ∧ x = mk a ∧ σ' = σ.set a zs
section
variable {G : Gl} {K K' : Sx} {A : Around} {env : Env} {ρ : List V} {σ σ' σc : Ow} {F F₁ F' : Fz} {s s₁ s' : Shared} {E : Value → Shared → Prop} {Q Qc : KS} {e e' c : PySem.Expr} {es : List PySem.Expr} {ss B body : List Stmt} {x y z kk : V} {xs ys zs ps : List V} {p q q' ap pe pc pr : Pos} {w : Bool} {C N dx b f X fa : Addr} {mN : Str → Option Value} {m g : Str} {np n : Nat} {mk : Addr → V} {vs : List Value} {R : V → Ow → Prop}
theorem aD2 (FA : FnO G.B fa K' np B) (hR : Ro σ σc) (hlen : xs.length = np) (hG : 0 < G.d) (body : WS G.dn K' B (xs ++ List.replicate (K'.ns.length - np) .unb) σc (bn4 mk zs)) (k : FOk G K A env ρ σ F s) (r : RelL F xs vs) :
  wpAny G.M A (call (.ref fa) vs) (fun v s' => ∃ x σ' F', Rel F' x v ∧ FOk G K A env ρ σ' F' s' ∧ Lk G.x env σ F s σ' F' s' ∧ bu1 σ mk zs x σ') E s := by
 refine wpAny_call (L4 FA hlen hG body k.e.rm r (fun a c q => ⟨hR.own k.e a c q, fun hr => by rw [hR.rw a c q] at hr; cases hr⟩) fun fl v σ' F' s' hf own S d q => ?_)
 obtain ⟨ρ', a, rfl, ha⟩ := q
 have S' : St G.x N0 F s F' s' := S.weaken fun b o _ q => q.elim fun c q => (nomatch (hR.rw b c q.1).symm.trans q.2)
 have hn : s.heap.get? a = none := (d a _ ha).elim (fun t => t.elim fun c t => (nomatch (hR.rw a c t.1).symm.trans (t.2 rfl))) id
 obtain ⟨hF, o, ho, ro⟩ := own a _ ha
 obtain ⟨hσ, k', L⟩ := k.ownedO (c := .lst zs) S' hn hF ho ro
 rcases hf with hf | ⟨e, _⟩
 ·exact ⟨_, _, F', hf, k', L, a, hσ, rfl, rfl⟩
 ·cases e
theorem ar6 (FA : FnAt G.B G.mg g K' np B) (hR : Ro σ σc) (ha : EvL G K ρ σ es xs) (hlen : xs.length = np) (hG : 0 < G.d) (body : WS G.dn K' B (xs ++ List.replicate (K'.ns.length - np) .unb) σc (bn4 mk zs))
  (hs : es.all f0 = true := by rfl) (hg : j8 K g = true := by decide +kernel) : EvM G K ρ σ (.Call (.Name g q) es [] p) (bu1 σ mk zs) := fun A env F s E k => by
 obtain ⟨o, fd, hf, ho, hfd, _⟩ := FA.obj
 refine wpAny_Call_NameR (n7 k.e (.inl hf) hg ?_)
 rw [m6 p env hs]
 refine Calls.callWith_function (l8 (o8 es env) (ha.bind k.e fun vs F₁ s₁ S₁ r₁ k₁ => ⟨⟨k₁.rm.in _ _ ho, hfd⟩, wpAny_mono (aD2 FA.o hR hlen hG body (k.step S₁) r₁) (fun v s' q => ?_) fun _ _ e => e⟩))
 obtain ⟨x, σ', F', rx, k', L, hR⟩ := q
 exact ⟨x, σ', F', rx, k', S₁.lk.trans L, hR⟩
theorem bq2 (h : New G g xs zs) (ha : EvL G K ρ σ es xs) (hs : es.all f0 = true := by rfl) (hg : j8 K g = true := by decide +kernel) : EvM G K ρ σ (.Call (.Name g q) es [] p) (bu1 σ .ref zs) := fun A env F s E k => by
 obtain ⟨o, fd, hf, ho, hfd⟩ := h.is
 refine wpAny_Call_NameR (n7 k.e (.inl hf) hg ?_)
 rw [m6 p env hs]
 refine Calls.callWith_function (l8 (o8 es env) (ha.bind k.e fun vs F₁ s₁ S₁ r₁ k₁ => ⟨⟨k₁.rm.in _ _ ho, hfd⟩, wpAny_mono (h.run A F₁ s₁ E vs k₁.rm r₁) (fun v s₂ q => ?_) fun _ _ e => e⟩))
 obtain ⟨a, F₂, rfl, hσ, k₂, L₂⟩ := k.owned (PN.from S₁ q)
 exact ⟨.ref a, _, F₂, rfl, k₂, L₂, a, hσ, rfl, rfl⟩
theorem M6 (h : EvM G K ρ σ e R) (hq : ∀ x σ', R x σ' → Q (.ret x) ρ σ') : WS G K (.Return (some e) p :: ss) ρ σ Q :=
 w4 fun A env F s E k => wpAny_Return_some (wpAny_mono (h A env F s E k) (fun v s' q => by
  obtain ⟨x, σ', F', rx, k', L, hR⟩ := q
  exact ⟨.ret x, ρ, σ', F', rx, k', L, hq x σ' hR⟩) fun _ _ e => e)
theorem L3 (h1 : Ev G K ρ σ e x) (h2 : EvM G K ρ σ e' R) (hs : [e, e'].all f0 = true := by rfl) : EvM G K ρ σ (.Tuple [e, e'] n p) fun z σ' => ∃ y, z = .tup [x, y] ∧ R y σ' := fun A env F s E k => by
 refine Tuple_ ?_
 rw [m6 p env hs]
 refine Calls.spliced_cons (h1.bind k.e fun v F₁ s₁ S₁ r₁ k₁ => Calls.spliced_cons (x := eval e' env) (rest := []) (wpAny_mono (h2 A env F₁ s₁ E (k.step S₁)) (fun u s₂ q => Calls.spliced_nil ?_) fun _ _ e => e))
 obtain ⟨y, σ', F', ry, k', L, hR⟩ := q
 refine wpAny_mono (N1 (xs := [x, y]) k'.e.rm ⟨_, _, rfl, r₁.mono L.S.up, _, _, rfl, ry, rfl⟩ (by show 2 ≤ 16777216; exact W3 )) (fun v s' q => q.casesOn fun F₂ S₂ r₂ => ?_) fun _ _ e => e
 exact ⟨_, σ', F₂, r₂, k'.step S₂, (S₁.lk.trans L).trans S₂.lk, y, rfl, hR⟩
def RzE (G : Gl) (K : Sx) (ρ : List V) (σ : Ow) (e : PySem.Expr) (X : Addr) : Prop := ∀ A env F s, FOk G K A env ρ σ F s → wpAny G.M A (eval e env) (fun _ _ => False) (PX G K A env σ F s X) s
theorem E0 (h1 : Ev G K ρ σ e x) (h2 : RzE G K ρ σ e' X) (hs : [e, e'].all f0 = true := by rfl) : WR G K (.Return (some (.Tuple [e, e'] n p)) pr :: ss) ρ σ X :=
 K0 fun A env F s k => wpAny_Return_some (by
  refine Tuple_ ?_
  rw [m6 p env hs]
  exact Calls.spliced_cons (h1.bind k.e fun v F₁ s₁ S₁ r₁ k₁ => Calls.spliced_cons (x := eval e' env) (rest := []) (wpAny_mono (h2 A env F₁ s₁ (k.step S₁)) (fun u s₂ q => q.elim) fun _ _ q => q.from S₁.lk)))
theorem L0 (T : TrC G C N mN) (M : Mth G mN m f K' np B) (hσ : σ dx = some (.tr w kk b)) (hR : Ro σ σc) (h1 : Ev G K ρ σ e (C3 C dx)) (ha : EvL G K ρ σ es ys) (hlen : ys.length + 1 = np) (hd : 0 < G.d) (body : WR G.dn K' B (C3 C dx :: ys ++ List.replicate (K'.ns.length - np) .unb) σc X)
  (hn : ∀ n env t, attributeBase e n env t = t := by intros; rfl) (hl : (ap.endLine == p.line) = true := by rfl) (hs : es.all f0 = true := by rfl) (h8 : es.length < 8 := by exact Nat.lt_of_sub_eq_succ rfl) : RzE G K ρ σ (.Call (.Attribute e m ap) es [] p) X :=
 fun A env F s k => Z6 T M hσ h1 ha hn hl hs h8 k.e fun F₂ s₂ vs S k₂ r => wpAny_mono (bb0 (xs := C3 C dx :: ys) M.fn hlen hd hR.rw body k₂.rm r (hR.own k₂)) (fun _ _ q => q.elim) fun _ _ q => (ak0 (k.step S) q).from S.lk
theorem aC6 {c : Addr} {v : Bool} (h : Pure G g xs (.bool v)) (hc : σ c = some (.lst zs)) (ha : EvL G K ρ σ es ys) (hr : ResL (σ0.set c zs) ys xs) (hs : es.all f0 = true := by rfl) (hg : j8 K g = true := by decide +kernel) : Ev G K ρ σ (.Call (.Name g q) es [] p) (.bool v) := fun A env F s E k => by
 obtain ⟨o, fd, hf, ho, hfd⟩ := h.is
 refine wpAny_Call_NameR (n7 k (.inl hf) hg ?_)
 rw [m6 p env hs]
 refine Calls.callWith_function (l8 (o8 es env) (ha.bind k fun vs F₁ s₁ S₁ r₁ k₁ => ⟨⟨k₁.rm.in _ _ ho, hfd⟩, ?_⟩))
 obtain ⟨hF, us, n, hu, ru⟩ := k₁.lst c zs hc
 have up : ∀ a o, F₁ a = some o → F₁.add c (z7 us n) a = some o := fun a o e => (if_neg (by rintro rfl; exact nS (hF.symm.trans e))).trans e
 have R₂ : Rm G A (F₁.add c (z7 us n)) s₁ := ⟨k₁.rm.go, fun a o e => up a o (k₁.rm.base a o e), fun a o e => by
  by_cases h : a = c
  ·subst h; cases Fz.add_self.symm.trans e; exact hu
  ·exact k₁.rm.sub a o ((if_neg h).symm.trans e), k₁.rm.depth, k₁.rm.units, k₁.rm.handled, k₁.rm.frs fun L _ hL t => ⟨(if_neg (by rintro rfl; obtain ⟨o, es, m, e, hd⟩ := t; cases hu.symm.trans e; cases hd)).trans hL, t⟩⟩
 have one : ∀ a c', (σ0.set c zs) a = some c' → a = c ∧ c' = .lst zs := fun a c' q => by
  by_cases h : a = c
  ·subst h; exact ⟨rfl, (Option.some.inj ((Ow.set_self ..).symm.trans q)).symm⟩
  ·exact nS ((Ow.set_ne _ _ h).symm.trans q)
 have r₂ : RelL (F₁.add c (z7 us n)) xs vs := ResL.rel up (fun a xs q => by obtain ⟨rfl, e⟩ := one a _ q; cases e; exact ⟨us, n, Fz.add_self, ru⟩) (fun a P q => nomatch (one a _ q).2) hr r₁
 refine wpAny_mono (h.run A _ s₁ E _ R₂ r₂) (fun v s₂ q => q.casesOn fun F₂ S₂ r₂ => ⟨F₁, S₁.trans ⟨fun _ _ e => e, fun a o e => S₂.sub a o (S₂.up a o (up a o e)), S₂.keepO, S₂.live, fun _ _ e => .inl e, S₂.rest⟩, r₂⟩) fun _ _ e => e
theorem bg4 {X' : Bool} (hX : X' = true ∨ X' = G.x) (FA : FnO G.B fa K' np B) (hlen : xs.length = np) (hG : 0 < G.d) (hL : bE5 G.x X' σ σc) (body : WS (G.wx X').dn K' B (xs ++ List.replicate (K'.ns.length - np) .unb) σc Qc)
  (fin : ∀ fl ρ' σ₃, Qc fl ρ' σ₃ → ∃ x z σ', (fl = .ret x ∨ (fl = .next ∧ x = .none)) ∧ Res (σn σc σ₃) x z ∧ (∀ a, ¬ (∃ c, σc a = some c ∧ c.rw = true) → σ' a = σ a) ∧ (∀ a c, (∃ c, σc a = some c ∧ c.rw = true) → σ' a = some c → σ₃ a = some c ∧ c.plain = true) ∧ R z σ')
  (k : FOk G K A env ρ σ F s) (r : RelL F xs vs) : wpAny G.M A (call (.ref fa) vs) (fun v s' => ∃ x σ' F', Rel F' x v ∧ FOk G K A env ρ σ' F' s' ∧ Lk G.x env σ F s σ' F' s' ∧ R x σ') E s := by
 refine wpAny_call (L4 (G := G.wx X') FA hlen hG body k.e.rm.wx r (fun a c q => ?_) fun fl v σ₃ F' s' hf own S d q => ?_)
 ·obtain ⟨c', e, h1, h2⟩ := hL a c q
  exact ⟨(k.e.own a c' e).imp id fun t => t.imp fun o t => ⟨t.1, h2 F o t.2⟩, fun hr => (k.sep a c' e).2 (h1 hr)⟩
 classical
 obtain ⟨ρ', q⟩ := q
 obtain ⟨x, z, σ', hfl, hres, hout, hin, hR⟩ := fin fl ρ' σ₃ q
 have S₁ : St G.x (fun a => ∃ c, σc a = some c ∧ c.rw = true) F s F' s' := by
  rcases hX with rfl | rfl
  ·exact St.to S
  ·exact S
 let F₂ : Fz := fun b => match F' b with | some o => some o | none => if ∃ c, σ₃ b = some c ∧ c.fr = true ∧ σc b = none then s'.heap.get? b else none
 have up : ∀ a o, F' a = some o → F₂ a = some o := fun a o e => by show (match F' a with | some o => some o | none => _) = _; rw [e]
 have at_ : ∀ a c, σ₃ a = some c → c.fr = true → σc a = none → F₂ a = s'.heap.get? a := fun a c q hc h0 => by
  show (match F' a with | some o => some o | none => _) = _
  rw [(own a _ q).1]; exact if_pos ⟨c, q, hc, h0⟩
 have back : ∀ a o, F₂ a = some o → F' a = some o ∨ ((∃ c, σ₃ a = some c ∧ c.fr = true ∧ σc a = none) ∧ s'.heap.get? a = some o) := fun a o e => by
  revert e
  show (match F' a with | some o => some o | none => if ∃ c, σ₃ a = some c ∧ c.fr = true ∧ σc a = none then s'.heap.get? a else none) = _ → _
  cases F' a with
  | some o' => exact fun e => .inl e
  | none => exact fun e => (Classical.em (∃ c, σ₃ a = some c ∧ c.fr = true ∧ σc a = none)).elim (fun h => .inr ⟨h, (if_pos h).symm.trans e⟩) fun h => nS ((if_neg h).symm.trans e)
 have S₂ : St G.x (fun a => ∃ c, σc a = some c ∧ c.rw = true) F s F₂ s' := ⟨fun a o e => up a o (S₁.up a o e), fun a o e => (back a o e).elim (S₁.sub a o) (·.2), S₁.keepO, S₁.live,
  fun b o e => (back b o e).elim (S₁.new b o) fun q => q.1.elim fun cc q => (d b _ q.1).elim (fun t => t.elim fun c t => (nS (q.2.2.symm.trans t.1))) .inr, S₁.rest⟩
 have FA := k.after (σ' := σ') S₂ (fun a h => h.elim fun c h => (hL a c h.1).imp fun c' t => ⟨t.1, t.2.1 h.2⟩) hout fun a c h q => by
  obtain ⟨h3, hp⟩ := hin a c h q
  obtain ⟨hF, o, ho, ro⟩ := own a c h3
  refine ⟨?_, o, ho, (ro.mono up).mode hp⟩
  cases q : F₂ a with
  | none => rfl
  | some o' => exact (back a o' q).elim (fun e => nS (hF.symm.trans e)) fun t => t.1.elim fun _ t => h.elim fun _ u => nS (t.2.2.symm.trans u.1)
 have mem : ∀ {a c}, σn σc σ₃ a = some c → σc a = none ∧ σ₃ a = some c := fun {a c} q => by
  by_cases h : σc a = none
  ·exact ⟨h, (if_pos h).symm.trans q⟩
  ·exact nS ((if_neg h).symm.trans q)
 have val : Rel F' x v := by
  rcases hf with hf | ⟨rfl, rfl⟩
  ·rcases hfl with rfl | ⟨rfl, _⟩
   ·exact hf
   ·exact hf.elim
  ·rcases hfl with e | ⟨_, rfl⟩
   ·cases e
   ·rfl
 exact ⟨z, σ', F₂, Res.rel up (fun a xs q => (own a _ (mem q).2).2.elim fun o t => by obtain ⟨h1, vs, n, rfl, rl⟩ := t; exact ⟨vs, n, (at_ a _ (mem q).2 rfl (mem q).1).trans h1, rl⟩) (fun a P q => (own a _ (mem q).2).2.elim fun o t => ⟨o, (at_ a _ (mem q).2 rfl (mem q).1).trans t.1, t.2.2⟩) hres val, FA.1, FA.2, hR⟩
theorem aC4 {X' : Bool} (hX : X' = true ∨ X' = G.x) (FA : FnAt G.B G.mg g K' np B) (ha : EvL G K ρ σ es xs) (hlen : xs.length = np) (hG : 0 < G.d) (hL : bE5 G.x X' σ σc) (body : WS (G.wx X').dn K' B (xs ++ List.replicate (K'.ns.length - np) .unb) σc Qc)
  (fin : ∀ fl ρ' σ₃, Qc fl ρ' σ₃ → ∃ x z σ', (fl = .ret x ∨ (fl = .next ∧ x = .none)) ∧ Res (σn σc σ₃) x z ∧ (∀ a, ¬ (∃ c, σc a = some c ∧ c.rw = true) → σ' a = σ a) ∧ (∀ a c, (∃ c, σc a = some c ∧ c.rw = true) → σ' a = some c → σ₃ a = some c ∧ c.plain = true) ∧ R z σ')
  (hs : es.all f0 = true := by rfl) (hg : j8 K g = true := by decide +kernel) : EvM G K ρ σ (.Call (.Name g q) es [] p) R := fun A env F s E k => by
 obtain ⟨o, fd, hf, ho, hfd, _⟩ := FA.obj
 refine wpAny_Call_NameR (n7 k.e (.inl hf) hg ?_)
 rw [m6 p env hs]
 refine Calls.callWith_function (l8 (o8 es env) (ha.bind k.e fun vs F₁ s₁ S₁ r₁ k₁ => ⟨⟨k₁.rm.in _ _ ho, hfd⟩, wpAny_mono (bg4 hX FA.o hlen hG hL body fin (k.step S₁) r₁) (fun v s' q => ?_) fun _ _ e => e⟩))
 obtain ⟨x, σ', F', rx, k', L, hR⟩ := q
 exact ⟨x, σ', F', rx, k', S₁.lk.trans L, hR⟩
theorem ag7 {nm : Str} (i : Nat) (h : EvM G K ρ σ e R) (h2 : ∀ x σ', R x σ' → WS G K ss (ρ.set i x) σ' Q) (hx : w0 K i nm = true := by decide +kernel) (hsw : ∀ env, swapsWith e (some (.Name nm q)) p.line env = pure false := by intros; rfl) : WS G K (.Assign [.Name nm q] e p :: ss) ρ σ Q :=
 w4 fun A env F s E k => wpAny_Assign_Name (wpAny_mono (h A env F s E k) (fun v s' q => by
  obtain ⟨x, σ', F', rx, k', L, hR⟩ := q
  have h3 := h2 x σ' hR
  exact A5 (x := x) k' hx rx fun h' t k₃ L₃ _ => ⟨.next, _, _, F', trivial, k₃, L.trans L₃, h3⟩) fun _ _ e => e) (hsw env)
end
section
variable {G : Gl} {K K' : Sx} {A : Around} {env : Env} {ρ : List V} {σ σ' σc : Ow} {F F₁ F' : Fz} {s s₁ s' : Shared} {E : Value → Shared → Prop} {Q Qc : KS} {e e' e₁ e₂ e₃ c : PySem.Expr} {es : List PySem.Expr} {ss B body : List Stmt} {x y z kk : V} {xs ys zs ps : List V} {p q q' ap pe pc pr : Pos} {w : Bool} {C N dx b f X fa : Addr} {mN : Str → Option Value} {m g : Str} {np n : Nat} {mk : Addr → V} {vs : List Value} {R : V → Ow → Prop}
theorem az5 (h : σ dx = some (.tr w kk b)) : Ro σ (σ0.put dx (.tr false kk b)) := fun a c q => by
 by_cases e : a = dx
 ·subst e; cases (Ow.put_self ..).symm.trans q; exact ⟨rfl, _, h, fun _ _ _ t => t⟩
 ·exact nS ((Ow.put_ne _ _ e).symm.trans q)
theorem aT3 (T : TrC G C N mN) (M : Mth G mN m f K' np B) (hσ : σ dx = some (.tr w kk b)) (hR : Ro σ σc) (h1 : Ev G K ρ σ e (C3 C dx)) (ha : EvL G K ρ σ es ys) (hlen : ys.length + 1 = np) (hG : 0 < G.d) (body : WS G.dn K' B (C3 C dx :: ys ++ List.replicate (K'.ns.length - np) .unb) σc (bn4 mk zs))
  (hn : ∀ n env t, attributeBase e n env t = t := by intros; rfl) (hl : (ap.endLine == p.line) = true := by rfl) (hs : es.all f0 = true := by rfl) (h8 : es.length < 8 := by exact Nat.lt_of_sub_eq_succ rfl) : EvM G K ρ σ (.Call (.Attribute e m ap) es [] p) (bu1 σ mk zs) := fun A env F s E k =>
 Z6 T M hσ h1 ha hn hl hs h8 k.e fun F₂ s₂ vs S k₂ r => wpAny_mono (aD2 (xs := C3 C dx :: ys) M.fn hR hlen hG body (k.step S) r) (fun v s' q => by
  obtain ⟨x, σ', F', rx, k', L, hR⟩ := q
  exact ⟨x, σ', F', rx, k', S.lk.trans L, hR⟩) fun _ _ e => e
theorem aT4 (h : Pure G g [x, y] z) (h1 : EvM G K ρ σ e₁ R) (hv : ∀ x' σ', R x' σ' → x' = x ∧ Ev G K ρ σ' e₂ y) (hs : [e₁, e₂].all f0 = true := by rfl) (hg : j8 K g = true := by decide +kernel) : EvM G K ρ σ (.Call (.Name g q) [e₁, e₂] [] p) fun z' σ' => z' = z ∧ R x σ' := fun A env F s E k => by
 obtain ⟨o, fd, hf, ho, hfd⟩ := h.is
 refine wpAny_Call_NameR (n7 k.e (.inl hf) hg ?_)
 rw [m6 p env hs]
 refine Calls.callWith_function (o := o) (fd := fd) (l8 (o8 [e₁, e₂] env) (Calls.spliced_cons (x := eval e₁ env) (wpAny_mono (h1 A env F s E k) (fun v s₁ q => ?_) fun _ _ e => e)))
 obtain ⟨x', σ', F', rx, k', L, hR⟩ := q
 obtain ⟨rfl, h2⟩ := hv _ _ hR
 refine Calls.spliced_cons (x := eval e₂ env) (rest := []) (h2.bind k'.e fun u F₂ s₂ S₂ r₂ k₂ => Calls.spliced_nil ⟨⟨k₂.rm.in _ _ ho, hfd⟩, wpAny_mono (h.run A F₂ s₂ E _ k₂.rm ⟨_, _, rfl, rx.mono S₂.up, _, _, rfl, r₂, rfl⟩) (fun v s₃ q => q.casesOn fun F₃ S₃ r₃ => ?_) fun _ _ e => e⟩)
 exact ⟨z, σ', F₃, r₃, (k'.step S₂).step S₃, (L.trans S₂.lk).trans S₃.lk, rfl, hR⟩
theorem bq1 {a : Addr} (h1 : Ev G K ρ σ e (.ref a)) (ha : σ a = some (.lst (xs ++ [y]))) (hl : xs.length ≤ 10000) (hn : ∀ n env t, attributeBase e n env t = t := by intros; rfl) (hp : (ap.endLine == p.line) = true := by rfl) : EvM G K ρ σ (.Call (.Attribute e "pop" ap) [] [] p) fun x σ' => x = y ∧ σ' = σ.set a xs := fun A env F s E k =>
 Z5 (id := "list.pop") h1 hn hp rfl (by decide) b9 k.e
  (fun F s v pl Q k r hq => by
   cases show v = .ref a from r
   obtain ⟨_, vs, n, hv, _⟩ := k.lst a _ ha
   exact getMethod_list_of PySem.F.slot_list_pop PySem.F.type_list_pop ⟨_, hv, rfl, n, rfl⟩ ⟨_, hv, rfl⟩ hq)
  (fun v vs F₁ s₁ S₁ k₁ r₁ rl => by
   cases show v = .ref a from r₁
   cases show vs = [] from rl
   exact bb8 (k.step S₁) ha hl fun u h' ru k₂ L₂ => ⟨y, _, F₁, ru, k₂, S₁.lk.trans L₂, rfl, rfl⟩)
theorem be9 (h1 : Ev G K ρ σ e₁ x) (h2 : Ev G K ρ σ e₂ y) (h3 : EvM G K ρ σ e₃ R) (hs : [e₁, e₂, e₃].all f0 = true := by rfl) : EvM G K ρ σ (.Tuple [e₁, e₂, e₃] n p) fun z σ' => ∃ u, z = .tup [x, y, u] ∧ R u σ' := fun A env F s E k => by
 refine Tuple_ ?_
 rw [m6 p env hs]
 refine Calls.spliced_cons (h1.bind k.e fun v F₁ s₁ S₁ r₁ k₁ => Calls.spliced_cons (x := eval e₂ env) (h2.bind k₁ fun v₂ F₂ s₂ S₂ r₂ k₂ => Calls.spliced_cons (x := eval e₃ env) (rest := []) (wpAny_mono (h3 A env F₂ s₂ E ((k.step S₁).step S₂)) (fun u s₂ q => Calls.spliced_nil ?_) fun _ _ e => e)))
 obtain ⟨t, σ', F', ry, k', L, hR⟩ := q
 refine wpAny_mono (N1 (xs := [x, y, t]) k'.e.rm ⟨_, _, rfl, (r₁.mono S₂.up).mono L.S.up, _, _, rfl, r₂.mono L.S.up, _, _, rfl, ry, rfl⟩ (by show 3 ≤ 16777216; exact bt9 )) (fun v s' q => q.casesOn fun F₃ S₃ r₃ => ?_) fun _ _ e => e
 exact ⟨_, σ', F₃, r₃, k'.step S₃, ((S₁.trans S₂).lk.trans L).trans S₃.lk, t, rfl, hR⟩
end
section
variable {G : Gl} {K : Sx} {A : Around} {env : Env} {ρ : List V} {σ σ₀ : Ow} {F F₀ : Fz} {s s₀ : Shared} {E : Value → Shared → Prop} {Q : KS} {e₀ : PySem.Expr} {ss body : List Stmt} {x y z : V} {p q q' q₁ pc pt : Pos} {xs : List V}
theorem Lk.privs {D : Addr → Prop} {h' : Heap} {t : Nat} (L : Lk G.x env σ₀ F₀ s₀ σ F s) (hD : ∀ r, D r → F r = none ∧ s₀.heap.get? r = none) (hs : ∀ b o, ¬ D b → s.heap.get? b = some o → h'.get? b = some o) : Lk G.x env σ₀ F₀ s₀ σ F { s with heap := h', toks := t } :=
 have ne : ∀ b o, s₀.heap.get? b = some o → ¬ D b := fun b o e h => nS ((hD b h).2.symm.trans e)
 ⟨⟨L.S.up, fun a o e => hs a o (fun h => nS ((hD a h).1.symm.trans e)) (L.S.sub a o e), fun b o e d => (L.S.keepO b o e d).imp fun o' q => ⟨hs b o' (ne b o e) q.1, q.2⟩, fun b o e => (L.S.live b o e).imp fun o' e' => ⟨hs b o' (ne b o e) e'.1, e'.2⟩, L.S.new, by rw [L.S.rest]⟩, L.d⟩
inductive EnI (G : Gl) (K : Sx) (A : Around) (env : Env) (σ : Ow) (F : Fz) (s : Shared) (F₁ : Fz) (e it l : Addr) (xs : List V) (I : Nat → List V → Ow → Prop) (m : Nat) (s' : Shared) : Prop
 | mk (i : Nat) (ρ' : List V) (σ' : Ow) (F' : Fz) (old : Value) (hm : m + i = xs.length + 1) (hle : i ≤ xs.length) (k : FOk G K A env ρ' σ' F' s') (L : Lk G.x env σ F s σ' F' s') (up : ∀ a o, F₁ a = some o → F' a = some o) (hD : ∀ r, r = e ∨ r = it → F' r = none ∧ σ' r = none) (he : IsEnum s'.heap e it ((i : Nat) : Int) old) (M3 : s'.heap.IsListIter it l i) (hI : I i ρ' σ')
theorem bl2 {n m : Str} {kk : Nat} (ia ib : Nat) (I : Nat → List V → Ow → Prop) (h1 : Ev G K ρ σ e₀ (.lst xs)) (h0 : I 0 ρ σ) (turn : ∀ (i : Nat) ρ σ y, xs[i]? = some y → I i ρ σ → WS G K body ((ρ.set ia (.int i)).set ib y) σ (Kf I (i + 1) Q)) (fin : ∀ ρ σ, I xs.length ρ σ → WS G K ss ρ σ Q) (hx : w0 K ia n = true := by decide +kernel) (hy : w0 K ib m = true := by decide +kernel) (hg : j8 K "enumerate" = true := by decide +kernel) (hst : f0 e₀ = true := by rfl) (hns : ∀ env v, foldedSetIterable (.Call (.Name "enumerate" q₁) [e₀] [] pc) env v = pure v := by intros; rfl) :
  WS G K (.For (.Tuple [.Name n q, .Name m q'] kk pt) (.Call (.Name "enumerate" q₁) [e₀] [] pc) body [] p :: ss) ρ σ Q :=
 w4 fun A env F s E k => wpAny_For (by
  refine wpAny_Call_NameR (n7 k.e (.inr (k.e.rm.go.blt 15 _ _ rfl)) hg ?_)
  rw [m6 pc env (by rw [List.all_cons, hst]; rfl)]
  refine PyProof.Rows.callWith_type (K6 [e₀] env) (l8 (o8 [e₀] env) ((b8 h1 b9).bind k.e fun vs F₁ s₁ S₁ r₁ k₁ => ?_))
  obtain ⟨v, rfl, l, us, rfl, ⟨nn, hl⟩, rl⟩ := ag0 r₁
  have hL : s₁.heap.IsList l us.toArray := ⟨_, k₁.rm.sub _ _ hl, rfl, nn, rfl⟩
  refine call_enumerate_list hL fun h' he M3 hsz hk => ?_
  have ni : s₁.heap.get? s₁.heap.objs.size = none := j9 _
  have nE : s₁.heap.get? (s₁.heap.objs.size + 1) = none := by
   cases q : s₁.heap.get? (s₁.heap.objs.size + 1) with
   | none => rfl
   | some o => exact absurd (Heap.lt_size q) (Nat.not_lt.mpr (Nat.le_succ _))
  have hei : s₁.heap.objs.size + 1 ≠ s₁.heap.objs.size := Nat.succ_ne_self _
  generalize s₁.heap.objs.size + 1 = e at *
  generalize s₁.heap.objs.size = it at *
  have S₂ : St G.x N0 F₁ s₁ F₁ { s₁ with heap := h' } := St.grow (t := s₁.toks) k₁.rm.sub hk
  have hdead : ∀ r, r = e ∨ r = it → s.heap.get? r = none := fun r h => by
   rcases h with rfl | rfl
   ·exact S₁.dead nE
   ·exact S₁.dead ni
  have out : ∀ {r}, s₁.heap.get? r = none → F₁ r = none := fun {r} h => by
   cases q : F₁ r with
   | none => rfl
   | some o => exact nS (h.symm.trans (k₁.rm.sub _ _ q))
  have σout : ∀ {r}, s.heap.get? r = none → σ r = none := fun {r} h => by
   cases q : σ r with
   | none => rfl
   | some c => exact (k.e.own r c q).2.elim fun _ q => nS (h.symm.trans q.1)
  refine wpAny_pyIter_enum he (aa0 (Ex := notedBy G.M A env (cameBackBy G.M A env E)) (EnI G K A env σ F s F₁ e it l xs I) (fun _ _ h => h) (fun m' s' => ?_) (xs.length + 1)
   ⟨0, ρ, σ, F₁, .none, rfl, Nat.zero_le _, (k.step S₁).step S₂, (S₁.trans S₂).lk, fun _ _ e => e, fun r h => ⟨h.elim (fun h => h ▸ out nE) fun h => h ▸ out ni, σout (hdead r h)⟩, he, M3, h0⟩)
  rintro ⟨i, ρ', σ', F', old, hm, hle, k', L', up, hD, he', hit', hI⟩
  have hL' : s'.heap.IsList l us.toArray := ⟨_, k'.e.rm.sub _ _ (up _ _ hl), rfl, nn, rfl⟩
  obtain ⟨oi, hoi, hci, hdi⟩ := id hit'
  have prv : ∀ r, r = e ∨ r = it → F' r = none ∧ ¬ Own env r ∧ L6 A r := fun r h => by
   refine ⟨(hD r h).1, ?_, ?_⟩
   ·rcases h with rfl | rfl
    ·exact k'.notOwn he' (fun _ _ e => nomatch e) fun _ e => nomatch e
    ·exact k'.notOwn hoi (fun _ _ e => nomatch hdi.symm.trans e) fun _ e => nomatch hdi.symm.trans e
   ·rcases h with rfl | rfl
    ·exact k'.e.rm.nofr fun o es n e h => by cases he'.symm.trans e; cases h
    ·exact k'.e.rm.nofr fun o es n e h => by cases hoi.symm.trans e; exact nomatch hdi.symm.trans h
  have other : ∀ {h₁ : Heap} {t₁ : Nat}, (∀ b o, ¬ (b = e ∨ b = it) → s'.heap.get? b = some o → h₁.get? b = some o) → FOk G K A env ρ' σ' F' { s' with heap := h₁, toks := t₁ } ∧ Lk G.x env σ F s σ' F' { s' with heap := h₁, toks := t₁ } := fun hs₁ =>
   ⟨k'.others (D := fun r => r = e ∨ r = it) prv (fun b o h q => hs₁ b o h q) (fun a c q => (k'.e.own a c q).elim fun h1 h2 => ⟨h1, h2.imp fun o h2 => ⟨hs₁ _ _ (fun h => nS ((hD a h).2.symm.trans q)) h2.1, h2.2⟩⟩) k'.sep, L'.privs (fun r h => ⟨(hD r h).1, hdead r h⟩) hs₁⟩
  rcases Nat.lt_or_ge i xs.length with hlt | hge
  ·obtain ⟨y, hy'⟩ : ∃ y, xs[i]? = some y := ⟨_, List.getElem?_eq_getElem hlt⟩
   obtain ⟨u, hu, ru⟩ := rl.get hy'
   refine wpAny_pyNext_enum_item he' hit' hL' (x := u) (by simpa using hu) hei fun h₁ heo hit₁ ht₁ hz₁ hk₁ => ?_
   refine wpAny_letOwnedTupleGo_enum heo fun h₂ he₂ hs₂ => ?_
   replace hs₂ : Heap.SameBut e h₁ h₂ := hs₂
   have hTe : s'.heap.objs.size ≠ e := Nat.ne_of_gt (Heap.lt_size he')
   have hTi : s'.heap.objs.size ≠ it := Nat.ne_of_gt (Heap.lt_size hoi)
   have up₂ : ∀ b o, ¬ (b = e ∨ b = it) → s'.heap.get? b = some o → h₂.get? b = some o := fun b o h q => (hs₂.2 b fun e => h (.inl e)).trans (hk₁ b o (fun e => h (.inl e)) (fun e => h (.inr e)) q)
   obtain ⟨k₂, L₂⟩ := other (t₁ := s'.toks + 1) up₂
   have hT₂ : h₂.get? s'.heap.objs.size = some { cls := .type "tuple", data := .seq #[.int i s'.toks, u] } := (hs₂.2 _ hTe).trans ht₁
   refine wpAny_assign_Tuple k₂.e.rm.handled ⟨_, hT₂, rfl, _, rfl⟩ rfl rfl fun h₃ hs₃ => ?_
   have hg₃ : ∀ b o, h₂.get? b = some o → h₃.get? b = some o := fun b o e => hs₃ b o (Nat.ne_of_lt (Heap.lt_size e)) e
   have S₃ : St G.x N0 F' { s' with heap := h₂, toks := s'.toks + 1 } F' { s' with heap := h₃, toks := s'.toks + 1 } := .grow k₂.e.rm.sub hg₃
   refine wpAny_assignInOrder_more (wpAny_assign_Name (A5 (x := .int i) (k₂.step S₃) hx ⟨_, rfl⟩ fun h₄ t₄ k₄ L₄ hk₄ => ?_))
   refine wpAny_assignInOrder_more (wpAny_assign_Name (A5 k₄ hy (ru.mono up) fun h₅ t₅ k₅ L₅ hk₅ => ?_))
   have L₆ := (S₃.lk.trans L₄).trans L₅
   have hit₂ : h₂.IsListIter it l (i + 1) := hit₁.at fun o y => (hs₂.2 it hei.symm).trans y
   refine wpAny_pure (wpAny_mono (turn i ρ' σ' y hy' hI A env F' _ _ k₅) (fun f s₇ h => h.casesOn fun fl ρ₃ σ₃ F₃ hf k₇ L₇ q => ?_) fun _ _ e => e)
   have L₈ := L₆.trans L₇
   obtain ⟨u₃, rec⟩ := L₈.recs k₂
   cases f <;> cases fl <;> first | exact hf.elim | skip
   ·obtain ⟨ge1, ge2, ge3⟩ := rec e _ _ he₂ rfl (hD e (.inl rfl)).1 (hD e (.inl rfl)).2
    obtain ⟨oi₂, hoi₂, hci₂, hdi₂⟩ := hit₂
    obtain ⟨gi1, gi2, gi3⟩ := rec it _ _ hoi₂ hdi₂ (hD it (.inr rfl)).1 (hD it (.inr rfl)).2
    refine ⟨m' - 1, by exact bD2 hm hle, i + 1, ρ₃, σ₃, F₃, u, by exact bD1 hm hle, hlt, k₇, L₂.trans L₈, fun a o e => u₃ a o (up a o e), fun r h => ?_, ge1, ⟨oi₂, gi1, hci₂, hdi₂⟩, q⟩
    rcases h with rfl | rfl
    ·exact ⟨ge2, ge3⟩
    ·exact ⟨gi2, gi3⟩
   ·exact ⟨_, ρ₃, σ₃, F₃, hf, k₇, L₂.trans L₈, q⟩
  ·cases Nat.le_antisymm hle hge
   refine wpAny_pyNext_enum_end k'.e.rm.handled he' hit' hL' (by rw [← rl.length]; simp) fun h₁ hs₁ => ?_
   obtain ⟨k₂, L₂⟩ := other (t₁ := s'.toks) fun b o h q => hs₁ b o (fun e => h (.inr e)) q
   exact ⟨.next, ρ', σ', F', trivial, k₂, L₂, fin ρ' σ' hI⟩) (hns env)
end
noncomputable def aS5 : Option (Str ⊕ Int) → Value → Bool
 | some (.inl x), v => Value.isStrOf x v
 | some (.inr i), v => Value.isInt i v
 | none, .none => true
 | none, _ => false
section
variable {prog : Program} {w : World} {A : Around} {E : Value → Shared → Prop} {s : Shared}
theorem B1 {v : Value} (h : aS5 none v = true) : v = .none := by cases v <;> first | rfl | cases h
noncomputable def bw6 : Int := 0xFCA86420
theorem az8 {Q : Int → Shared → Prop} (h : Q bw6 { s with toks := s.toks + 1 }) : wpAny (model prog w) A (pyHash .none) Q E s := by
 show wpAny _ _ (pyHashByItsType .none) Q E s
 unfold pyHashByItsType
 have hT : s.TypeIs .none "NoneType" := rfl
 refine wpAny_bind ?_
 rw [cRoomFor, if_neg (by exact Bool.false_ne_true)]; refine wpAny_pure ?_
 refine wpAny_bind (wpAny_specialOf hT F.slot_NoneType_hash.lookup ?_)
 show wpAny _ _ (if (some (Value.builtin "NoneType.__hash__") == some Value.none) = true then _ else _) Q E s
 rw [if_neg (by rw [beq_builtin_none]; exact Bool.false_ne_true)]
 refine wpAny_bind (wpAny_specialOf hT F.slot_NoneType_hash.lookup ?_)
 show wpAny _ _ (callSpecialIfBoundUnlessNone? .none "__hash__" _ >>= _) Q E s
 refine wpAny_bind (wpAny_callSpecialIfBoundUnlessNone?_slot hT F.slot_NoneType_hash (wpAny_call_entry F.slot_NoneType_hash hT F.entry_NoneType_hash (show wpAny _ _ (do ret (← mkInt 0xFCA86420)) _ _ s from wpAny_ret_mkInt ?_) (F.args_NoneType_hash_1 _)))
 exact wpAny_pure h
theorem eqB {a b : Value} {c : Bool} {Q : Bool → Shared → Prop} (h0 : (a == b) = false) (hf : ∀ x t, a ≠ .float x t) (hc : ∀ (Q : Value → Shared → Prop), Q (.bool c) s → wpAny (model prog w) A (richCompare .Eq a b) Q E s) (h : Q c s) : wpAny (model prog w) A (eqBool a b) Q E s := by
 unfold eqBool
 refine wpAny_holding ?_
 show wpAny _ _ (if (a == b) = true then _ else _) Q E s
 rw [if_neg (by rw [h0]; exact Bool.false_ne_true)]
 cases a <;> first | exact absurd rfl (hf _ _) | exact wpAny_bind (hc _ (wpAny_truthy_bool h))
theorem aJ5 {a b : Option (Str ⊕ Int)} {u v : Value} {Q : Bool → Shared → Prop} (hu : aS5 a u = true) (hv : aS5 b v = true) (h : Q (decide (a = b)) s) : wpAny (model prog w) A (eqBool u v) Q E s := by
 rcases a with _ | x | i <;> rcases b with _ | y | j
 ·cases B1 hu; cases B1 hv
  unfold eqBool
  exact wpAny_bind (wpAny_rule (wpAny_pure h))
 ·cases B1 hu
  obtain ⟨t, rfl⟩ := Value.isStrOf_shape hv
  exact eqB rfl (fun _ _ e => nomatch e) (fun Q q => EqNone.eq_none_str q) h
 ·cases B1 hu
  obtain ⟨t, rfl⟩ := Value.isInt_shape hv
  exact eqB rfl (fun _ _ e => nomatch e) (fun Q q => EqNone.eq_none_int q) h
 ·obtain ⟨t, rfl⟩ := Value.isStrOf_shape hu
  cases B1 hv
  exact eqB rfl (fun _ _ e => nomatch e) (fun Q q => EqNone.eq_str_none q) h
 ·exact (strKind prog w).eqBool hu hv (by simpa using h)
 ·obtain ⟨t, rfl⟩ := Value.isStrOf_shape hu
  obtain ⟨t', rfl⟩ := Value.isInt_shape hv
  exact eqB rfl (fun _ _ e => nomatch e) (fun Q q => EqMixed.eq_str_int q) h
 ·obtain ⟨t, rfl⟩ := Value.isInt_shape hu
  cases B1 hv
  exact eqB rfl (fun _ _ e => nomatch e) (fun Q q => EqNone.eq_int_none q) h
 ·obtain ⟨t, rfl⟩ := Value.isInt_shape hu
  obtain ⟨t', rfl⟩ := Value.isStrOf_shape hv
  exact eqB rfl (fun _ _ e => nomatch e) (fun Q q => EqMixed.eq_int_str q) h
 ·exact (intKind prog w).eqBool hu hv (by simpa using h)
end
noncomputable def bz7 (w : World) : Option (Str ⊕ Int) → Int
 | some (.inl x) => hashStr w x
 | some (.inr i) => hashInt i
 | none => bw6
noncomputable def ah2 (prog : Program) (w : World) : KeyKind prog w (Option (Str ⊕ Int)) where
 is := aS5
 hash := bz7 w
 inj := fun v a b ha hb => by
  rcases a with _ | x | i <;> rcases b with _ | y | j
  ·rfl
  ·cases B1 ha; cases hb
  ·cases B1 ha; cases hb
  ·cases B1 hb; cases ha
  ·rw [Value.isStrOf_inj v x y ha hb]
  ·obtain ⟨t, rfl⟩ := Value.isStrOf_shape ha; cases hb
  ·cases B1 hb; cases ha
  ·obtain ⟨t, rfl⟩ := Value.isStrOf_shape hb; cases ha
  ·rw [Value.isInt_inj v i j ha hb]
 byValue := fun k v h => by
  rcases k with _ | x | i
  ·cases B1 h; rfl
  ·obtain ⟨t, rfl⟩ := Value.isStrOf_shape h; rfl
  ·obtain ⟨t, rfl⟩ := Value.isInt_shape h; rfl
 pyHash := fun {A E s k v Q} hv h => by
  rcases k with _ | x | i
  ·cases B1 hv; exact az8 h
  ·exact (strKind prog w).pyHash (k := x) hv h
  ·exact (intKind prog w).pyHash (k := i) hv h
 eqBool := fun hu hv h => aJ5 hu hv h
 «strs» := fun k x t v h => by
  rcases k with _ | y | i
  ·cases h
  ·exact (strKind prog w).«strs» y x t v h
  ·cases h
section
variable {G : Gl} {K : Sx} {ρ : List V} {σ : Ow} {l r : PySem.Expr} {x y : V} {p : Pos} {kvs : List (List Nat × Int)}
theorem aP4 {k : Option (Str ⊕ Int)} (hk : ∀ y, k ≠ some (.inl y)) (hx : ∀ F v, Rel F x v → aS5 k v = true) (h : Dc G σ kvs y) (hsy : ∃ o, G.B.get? sysModules = some o) (h1 : Ev G K ρ σ l x) (h2 : Ev G K ρ σ r y) (hm : behindInMarks .In r = false := by rfl) : Tr G K ρ σ (.Compare l [.In] [r] p) false := fun A env F s E ke =>
 wpAny_isTrue_Compare1 (h1.bind ke fun v F₁ s₁ S₁ r₁ k₁ => h2.bind k₁ fun w F₂ s₂ S₂ r₂ k₂ => by
  obtain ⟨a, ps, rfl, hd, hkv, ha⟩ := h.at hsy k₂ r₂
  obtain ⟨o, es, ep, ho, hex, hdat, hks, hf⟩ := hd.mapOf
  have key : KeysOf (ah2 G.prog G.w) es := fun e he => (hks e he).elim fun q t => ⟨some (.inl q), t⟩
  have hno : findBy (ah2 G.prog G.w).is es k = none := by
   show (es.find? fun e => aS5 k e.key).map (·.val) = none
   rw [Option.map_eq_none_iff, Array.find?_eq_none]
   intro e he hc
   obtain ⟨q, hq, _⟩ := hks e he
   obtain ⟨t, et⟩ := Value.isStrOf_shape hq
   exact hk q ((ah2 G.prog G.w).inj e.key k (some (.inl q)) hc hq)
  refine wpAny_in_of (knd := ah2 G.prog G.w) (k := k) (hx F₁ v r₁) ha ⟨o, es, ep, ho, hex, hdat, key, fun _ => rfl⟩ ?_
  rw [hno]
  exact wpAny_truthy_bool ⟨F₂, (S₁.trans S₂).trans (St.grow (t := s₂.toks + 1) k₂.rm.sub fun _ _ e => e), rfl⟩) hm
theorem br2 (h : Dc G σ kvs y) (hsy : ∃ o, G.B.get? sysModules = some o) (h1 : Ev G K ρ σ l .none) (h2 : Ev G K ρ σ r y) (hm : behindInMarks .In r = false := by rfl) : Tr G K ρ σ (.Compare l [.In] [r] p) false :=
 aP4 (k := none) (fun _ e => nomatch e) (fun F v r => by cases show v = .none from r; rfl) h hsy h1 h2 hm
theorem br3 {i : Int} (h : Dc G σ kvs y) (hsy : ∃ o, G.B.get? sysModules = some o) (h1 : Ev G K ρ σ l (.int i)) (h2 : Ev G K ρ σ r y) (hm : behindInMarks .In r = false := by rfl) : Tr G K ρ σ (.Compare l [.In] [r] p) false :=
 aP4 (k := some (.inr i)) (fun _ e => nomatch e) (fun F v r => by obtain ⟨t, rfl⟩ := r; exact beq_self_eq_true i) h hsy h1 h2 hm
theorem bm1 {e e' : PySem.Expr} {v : Bool} {R : Bool → Ow → Prop} (h : TrM G K ρ σ e R) (hv : ∀ u σ', R u σ' → u = false ∧ Tr G K ρ σ' e' v) : TrM G K ρ σ (.BoolOp .Or [e, e'] p) fun u σ' => u = v ∧ R false σ' := fun A env F s E k =>
 wpAny_bind (wpAny_mono (h A env F s E k) (fun u s' q => by
  obtain ⟨σ', F', k', L, hR⟩ := q
  obtain ⟨rfl, h2⟩ := hv u σ' hR
  refine wpAny_mono (x6 (op := .Or) h2 A env F' s' E k'.e) (fun u s₁ q => ?_) fun _ _ e => e
  obtain ⟨F₁, S, rfl⟩ := q
  exact ⟨σ', F₁, k'.step S, L.trans S.lk, rfl, hR⟩) fun _ _ e => e)
end
section
variable {G : Gl} {K : Sx} {A : Around} {env : Env} {ρ : List V} {σ : Ow} {F : Fz} {s : Shared} {E : Value → Shared → Prop} {e l : PySem.Expr} {x y : V} {xs : List V} {p q : Pos} {ka : Addr} {b : Bool}
theorem RelO.frz {F' : Fz} {ov : Option Value} {n : Nat} {us : List Value} (h : RelO F (.ref ka) ov) (hk : F' ka = some (z7 us n)) (r : RelL F' xs us) : RelO F' (.lst xs) ov := fun _ => by
 obtain ⟨v, e, rv⟩ := h (by simp)
 cases show v = .ref ka from rv
 exact ⟨_, e, ka, us, rfl, ⟨n, hk⟩, r⟩
theorem bB4 (i : Nat) (hρ : ρ[i]? = some (.ref ka)) (hk : σ ka = some (.lst xs)) (h : Ev G K (ρ.set i (.lst xs)) σ0 e (.bool b)) : Ev G K ρ σ e (.bool b) := fun A env F s E k => by
 obtain ⟨hF, us, n, hu, ru⟩ := k.lst ka xs hk
 have up : ∀ a o, F a = some o → F.add ka (z7 us n) a = some o := fun a o e => (if_neg (by rintro rfl; exact nS (hF.symm.trans e))).trans e
 have out : ∀ {a}, F a = none → a ≠ ka → F.add ka (z7 us n) a = none := fun {a} e h => (if_neg h).trans e
 have R₂ : Rm G A (F.add ka (z7 us n)) s := ⟨k.rm.go, fun a o e => up a o (k.rm.base a o e), fun a o e => by
  by_cases h : a = ka
  ·subst h; cases Fz.add_self.symm.trans e; exact hu
  ·exact k.rm.sub a o ((if_neg h).symm.trans e), k.rm.depth, k.rm.units, k.rm.handled, k.rm.frs fun L _ hL t => ⟨(if_neg (by rintro rfl; obtain ⟨o, es, m, e, hd⟩ := t; cases hu.symm.trans e; cases hd)).trans hL, t⟩⟩
 have k₂ : EOk G K A env (ρ.set i (.lst xs)) σ0 (F.add ka (z7 us n)) s := by
  refine ⟨R₂, k.sc, k.kind, k.globals, k.builtins, fun a c q => (nomatch q), ⟨by rw [List.length_set]; exact k.loc.len, ?_, k.loc.vars.imp fun m r => ⟨r.1, fun j x v hx hv => ?_⟩⟩⟩
  ·obtain ⟨m, hm, _⟩ := k.loc.vars
   refine out k.loc.out ?_
   rintro e
   obtain ⟨o, es, ep, ho, hdd, _⟩ := hm
   rw [e] at ho
   cases hu.symm.trans ho
   cases hdd
  ·by_cases hj : i = j
   ·subst hj
    have hi : i < ρ.length := (List.getElem?_eq_some_iff.mp hρ).1
    rw [List.getElem?_set_self hi] at hv
    cases hv
    have := r.2 i x _ hx hρ
    refine ⟨fun hl => (this.1 hl).frz Fz.add_self (ru.mono up), fun hc => (this.2 hc).imp fun c u => u.imp fun ov u => ⟨u.1, u.2.1, u.2.2.1.frz Fz.add_self (ru.mono up), ?_⟩⟩
    refine out u.2.2.2 ?_
    rintro rfl
    obtain ⟨oc, h1, h2⟩ := u.2.1
    cases hu.symm.trans h1
    cases h2
   ·rw [List.getElem?_set_ne hj] at hv
    have := r.2 j x v hx hv
    refine ⟨fun hl => (this.1 hl).mono up, fun hc => (this.2 hc).imp fun c u => u.imp fun ov u => ⟨u.1, u.2.1, u.2.2.1.mono up, ?_⟩⟩
    refine out u.2.2.2 ?_
    rintro rfl
    obtain ⟨oc, h1, h2⟩ := u.2.1
    cases hu.symm.trans h1
    cases h2
 exact wpAny_mono (h A env _ s E k₂) (fun v s₂ q => q.casesOn fun F₂ S₂ r₂ => ⟨F, ⟨fun _ _ e => e, fun a o e => S₂.sub a o (S₂.up a o (up a o e)), S₂.keepO, S₂.live, fun _ _ e => .inl e, S₂.rest⟩, r₂⟩) fun _ _ e => e
theorem ba3 (h1 : Ev G K ρ σ l (.ref ka)) (hk : σ ka = some (.lst xs)) : Tr G K ρ σ (.Compare l [.NotEq] [.List [] q] p) (!xs.isEmpty) := fun A env F s E k =>
 wpAny_isTrue_Compare1 (h1.bind k fun v F₁ s₁ S₁ r₁ k₁ => (z6 b9 (Nat.zero_le _)).bind k₁ fun w F₂ s₂ S₂ r₂ k₂ => by
  cases show v = .ref ka from r₁
  obtain ⟨vs, hl, rl⟩ := Z0 k₂ hk
  have hn := rl.length
  obtain ⟨a', ws, rfl, hl', hn', _⟩ := J5 k₂.rm r₂
  cases List.eq_nil_of_length_eq_zero hn'
  have S := S₁.trans S₂
  cases xs with
  | nil => cases List.eq_nil_of_length_eq_zero hn; exact PySem.SeqAt.RcNeAt.lists (e := fun _ => true) hl hl' rfl k₂.rm.room (fun j h1 _ => absurd h1 (Nat.not_lt_zero _)) _ _ _ _ (wpAny_truthy_bool ⟨F₂, S, rfl⟩)
  | cons x xs => exact PySem.SeqAt.RcNeAt.lists_lengths hl hl' (by rw [List.size_toArray, hn]; rfl) k₂.rm.room _ _ _ _ (wpAny_truthy_bool ⟨F₂, S, rfl⟩)) rfl
end
noncomputable def z4 (k : Nat) : Stmt := PP.main.body.getD k (.Pass default)
noncomputable def fB : Stmt → List Stmt
 | .FunctionDef _ _ b _ _ _ _ _ _ _ => b
 | _ => []
noncomputable def fS : Stmt → Scope
 | .FunctionDef _ _ _ _ _ _ s _ _ _ => s
 | _ => default
noncomputable def cB : Stmt → List Stmt
 | .ClassDef _ _ _ b _ _ _ _ _ _ _ => b
 | _ => []
noncomputable def aV9 : Sx := ⟨fS (z4 14), ["sign", "place"]⟩
noncomputable abbrev aW6 : List Stmt := fB (z4 14)
abbrev aX1 (G : Gl) : Prop := FnAt G.B G.mg "is_sign" aV9 1 aW6
noncomputable def aW0 : Sx := ⟨fS (z4 15), ["thing"]⟩
noncomputable abbrev aW7 : List Stmt := fB (z4 15)
abbrev aX2 (G : Gl) : Prop := FnAt G.B G.mg "is_name" aW0 1 aW7
noncomputable def bj2 : Sx := ⟨fS (z4 16), ["one", "other", "size"]⟩
noncomputable abbrev bj7 : List Stmt := fB (z4 16)
abbrev ab6 (G : Gl) : Prop := FnAt G.B G.mg "common" bj2 2 bj7
noncomputable def bE6 : Sx := ⟨fS (z4 17), ["name", "beginning"]⟩
noncomputable abbrev bE9 : List Stmt := fB (z4 17)
abbrev ax4 (G : Gl) : Prop := FnAt G.B G.mg "rest" bE6 2 bE9
noncomputable def bj0 : Sx := ⟨fS (z4 19), ["tree", "text", "pairs", "sign", "below"]⟩
noncomputable abbrev bj5 : List Stmt := fB (z4 19)
abbrev V0 (G : Gl) : Prop := FnAt G.B G.mg "gather" bj0 3 bj5
noncomputable def bu3 : Sx := ⟨fS (z4 20), ["tree", "pairs"]⟩
noncomputable abbrev bu8 : List Stmt := fB (z4 20)
abbrev ax5 (G : Gl) : Prop := FnAt G.B G.mg "names" bu3 1 bu8
noncomputable def aV8 : Sx := ⟨fS (z4 21), ["pair"]⟩
noncomputable abbrev aW5 : List Stmt := fB (z4 21)
abbrev ae1 (G : Gl) : Prop := FnAt G.B G.mg "name_of" aV8 1 aW5
noncomputable def aW1 : Sx := ⟨fS (z4 22), ["pairs", "size", "groups", "name", "number", "sign"]⟩
noncomputable abbrev aW8 : List Stmt := fB (z4 22)
abbrev W2 (G : Gl) : Prop := FnAt G.B G.mg "grouped" aW1 2 aW8
noncomputable def bu6 : Sx := ⟨fS (z4 23), ["pairs", "shared", "branches", "sign", "group"]⟩
noncomputable abbrev bv1 : List Stmt := fB (z4 23)
abbrev ai0 (G : Gl) : Prop := FnAt G.B G.mg "built" bu6 1 bv1
noncomputable def aL2 : Sx := ⟨fS (z4 24), ["pairs"]⟩
noncomputable abbrev aL4 : List Stmt := fB (z4 24)
abbrev an8 (G : Gl) : Prop := FnAt G.B G.mg "built_of" aL2 1 aL4
noncomputable def aE8 : Sx := ⟨fS (z4 25), ["branches", "sign", "own", "below"]⟩
noncomputable abbrev aF4 : List Stmt := fB (z4 25)
abbrev V1 (G : Gl) : Prop := FnAt G.B G.mg "branch_at" aE8 2 aF4
noncomputable def bu5 : Sx := ⟨fS (z4 26), ["tree", "name", "behind"]⟩
noncomputable abbrev bv0 : List Stmt := fB (z4 26)
abbrev aQ1 (G : Gl) : Prop := FnAt G.B G.mg "found" bu5 2 bv0
noncomputable def bK7 : Sx := ⟨fS (z4 27), ["tree", "name", "number", "others"]⟩
noncomputable abbrev bL2 : List Stmt := fB (z4 27)
abbrev bL4 (G : Gl) : Prop := FnAt G.B G.mg "put" bK7 3 bL2
noncomputable def aV6 : Sx := ⟨fS (z4 28), ["tree", "name"]⟩
noncomputable abbrev aW3 : List Stmt := fB (z4 28)
abbrev aW9 (G : Gl) : Prop := FnAt G.B G.mg "without" aV6 2 aW3
noncomputable def bu2 : Sx := ⟨fS (z4 30), ["tree", "beginning"]⟩
noncomputable abbrev bu7 : List Stmt := fB (z4 30)
abbrev bv2 (G : Gl) : Prop := FnAt G.B G.mg "under" bu2 2 bu7
noncomputable def bE7 : Sx := ⟨fS (z4 31), ["tree", "beginning"]⟩
noncomputable abbrev bF0 : List Stmt := fB (z4 31)
abbrev bF1 (G : Gl) : Prop := FnAt G.B G.mg "many" bE7 2 bF0
noncomputable def bi9 : Sx := ⟨fS (z4 33), ["tree", "beginning", "outside", "inside", "name", "number", "behind"]⟩
noncomputable abbrev bj4 : List Stmt := fB (z4 33)
abbrev aF5 (G : Gl) : Prop := FnAt G.B G.mg "parted" bi9 2 bj4
noncomputable def aE4 : Sx := ⟨fS (z4 34), ["ones", "others", "kept", "name", "number"]⟩
noncomputable abbrev aF0 : List Stmt := fB (z4 34)
abbrev U7 (G : Gl) : Prop := FnAt G.B G.mg "need_free" aE4 2 aF0
noncomputable def bK8 : Sx := ⟨fS (z4 35), ["tree", "beginning", "parts"]⟩
noncomputable abbrev bL3 : List Stmt := fB (z4 35)
abbrev bL5 (G : Gl) : Prop := FnAt G.B G.mg "cut" bK8 2 bL3
noncomputable def aV7 : Sx := ⟨fS (z4 36), ["tree", "beginning", "other", "inside"]⟩
noncomputable abbrev aW4 : List Stmt := fB (z4 36)
abbrev aX0 (G : Gl) : Prop := FnAt G.B G.mg "renamed" aV7 3 aW4
noncomputable def bu4 : Sx := ⟨fS (z4 37), ["tree", "beginning", "other", "changed", "stay"]⟩
noncomputable abbrev bu9 : List Stmt := fB (z4 37)
abbrev bv3 (G : Gl) : Prop := FnAt G.B G.mg "moved" bu4 3 bu9
noncomputable def bj1 : Sx := ⟨fS (z4 38), ["tree", "beginning", "other", "more", "stay"]⟩
noncomputable abbrev bj6 : List Stmt := fB (z4 38)
abbrev bj8 (G : Gl) : Prop := FnAt G.B G.mg "copied" bj1 3 bj6
noncomputable def aE3 : Sx := ⟨fS (z4 41), ["thing"]⟩
noncomputable abbrev aE9 : List Stmt := fB (z4 41)
abbrev aF6 (G : Gl) : Prop := FnAt G.B G.mg "need_name" aE3 1 aE9
noncomputable def ab4 : Sx := ⟨fS ((cB (z4 42)).getD 0 (.Pass default)), ["self"]⟩
noncomputable abbrev ab5 : List Stmt := fB ((cB (z4 42)).getD 0 (.Pass default))
noncomputable def U5 : Sx := ⟨fS ((cB (z4 42)).getD 1 (.Pass default)), ["self", "after_it"]⟩
noncomputable abbrev U6 : List Stmt := fB ((cB (z4 42)).getD 1 (.Pass default))
noncomputable def L7 : Sx := ⟨fS ((cB (z4 42)).getD 2 (.Pass default)), ["self", "beginning", "count"]⟩
noncomputable abbrev L9 : List Stmt := fB ((cB (z4 42)).getD 2 (.Pass default))
noncomputable def L8 : Sx := ⟨fS ((cB (z4 42)).getD 3 (.Pass default)), ["self", "beginning", "other", "name", "number"]⟩
noncomputable abbrev M0 : List Stmt := fB ((cB (z4 42)).getD 3 (.Pass default))
noncomputable def H6 : Sx := ⟨fS ((cB (z4 42)).getD 4 (.Pass default)), ["self", "name", "number", "before"]⟩
noncomputable abbrev H8 : List Stmt := fB ((cB (z4 42)).getD 4 (.Pass default))
noncomputable def H7 : Sx := ⟨fS ((cB (z4 42)).getD 5 (.Pass default)), ["self", "name", "before"]⟩
noncomputable abbrev H9 : List Stmt := fB ((cB (z4 42)).getD 5 (.Pass default))
noncomputable def F6 : Sx := ⟨fS ((cB (z4 42)).getD 6 (.Pass default)), ["self", "beginning", "count"]⟩
noncomputable abbrev F7 : List Stmt := fB ((cB (z4 42)).getD 6 (.Pass default))
noncomputable def B5 : Sx := ⟨fS ((cB (z4 42)).getD 7 (.Pass default)), ["self", "beginning", "other", "count"]⟩
noncomputable abbrev B6 : List Stmt := fB ((cB (z4 42)).getD 7 (.Pass default))
noncomputable def y8 : Sx := ⟨fS ((cB (z4 42)).getD 8 (.Pass default)), ["self", "beginning", "other", "count", "wider"]⟩
noncomputable abbrev y9 : List Stmt := fB ((cB (z4 42)).getD 8 (.Pass default))
noncomputable def R5 : Sx := ⟨fS ((cB (z4 42)).getD 9 (.Pass default)), ["self"]⟩
noncomputable abbrev R6 : List Stmt := fB ((cB (z4 42)).getD 9 (.Pass default))
noncomputable def aw7 : Sx := ⟨fS ((cB (z4 42)).getD 10 (.Pass default)), ["self", "beginning"]⟩
noncomputable abbrev ax2 : List Stmt := fB ((cB (z4 42)).getD 10 (.Pass default))
noncomputable def aw6 : Sx := ⟨fS ((cB (z4 42)).getD 11 (.Pass default)), ["self"]⟩
noncomputable abbrev ax1 : List Stmt := fB ((cB (z4 42)).getD 11 (.Pass default))
noncomputable def aw8 : Sx := ⟨fS ((cB (z4 42)).getD 12 (.Pass default)), ["self"]⟩
noncomputable abbrev ax3 : List Stmt := fB ((cB (z4 42)).getD 12 (.Pass default))
noncomputable def ap4 : Sx := ⟨fS (z4 44), ["_law_script", "_law_k"]⟩
noncomputable abbrev ap9 : List Stmt := fB (z4 44)
abbrev X1 (G : Gl) : Prop := FnAt G.B G.mg "_law_cell_at" ap4 2 ap9
noncomputable def aE5 : Sx := ⟨fS (z4 45), ["_law_told"]⟩
noncomputable abbrev aF1 : List Stmt := fB (z4 45)
abbrev U8 (G : Gl) : Prop := FnAt G.B G.mg "_law_whole" aE5 1 aF1
noncomputable def ap3 : Sx := ⟨fS (z4 46), ["_law_cell", "_law_some"]⟩
noncomputable abbrev ap8 : List Stmt := fB (z4 46)
abbrev F9 (G : Gl) : Prop := FnAt G.B G.mg "_law_sign_by" ap3 1 ap8
noncomputable def ap1 : Sx := ⟨fS (z4 47), ["_law_cell", "_law_size", "_law_made", "_law_number", "_law_k"]⟩
noncomputable abbrev ap6 : List Stmt := fB (z4 47)
abbrev J2 (G : Gl) : Prop := FnAt G.B G.mg "_law_word_by" ap1 2 ap6
noncomputable def ag4 : Sx := ⟨fS (z4 48), ["_law_cell", "_law_size", "_law_number", "_law_mixed", "_law_k"]⟩
noncomputable abbrev ag5 : List Stmt := fB (z4 48)
abbrev S6 (G : Gl) : Prop := FnAt G.B G.mg "_law_number_by" ag4 1 ag5
noncomputable def aE7 : Sx := ⟨fS (z4 49), ["_law_told", "_law_due_here", "_law_k"]⟩
noncomputable abbrev aF3 : List Stmt := fB (z4 49)
abbrev af9 (G : Gl) : Prop := FnAt G.B G.mg "_law_alike" aE7 2 aF3
noncomputable def ap2 : Sx := ⟨fS (z4 50), ["_law_cell", "_law_held", "_law_size", "_law_word", "_law_old"]⟩
noncomputable abbrev ap7 : List Stmt := fB (z4 50)
abbrev O0 (G : Gl) : Prop := FnAt G.B G.mg "_law_text_by" ap2 2 ap7
noncomputable def an4 : Sx := ⟨fS (z4 51), ["_law_cell", "_law_held"]⟩
noncomputable abbrev an7 : List Stmt := fB (z4 51)
abbrev U9 (G : Gl) : Prop := FnAt G.B G.mg "_law_other_by" an4 2 an7
noncomputable def ap0 : Sx := ⟨fS (z4 52), ["_law_e", "_law_words"]⟩
noncomputable abbrev ap5 : List Stmt := fB (z4 52)
abbrev F8 (G : Gl) : Prop := FnAt G.B G.mg "_law_word_of" ap0 1 ap5
noncomputable def g9 : Sx := ⟨fS (z4 53), ["_law_trail", "_law_way", "_law_one", "_law_other", "_law_number", "_law_e"]⟩
noncomputable abbrev s9 : List Stmt := fB (z4 53)
abbrev aF7 (G : Gl) : Prop := FnAt G.B G.mg "_law_tried" g9 5 s9
noncomputable def aE6 : Sx := ⟨fS (z4 54), ["_law_thing"]⟩
noncomputable abbrev aF2 : List Stmt := fB (z4 54)
abbrev C7 (G : Gl) : Prop := FnAt G.B G.mg "_law_named" aE6 1 aF2
noncomputable def t0 : Sx := ⟨fS (z4 55), ["_law_plain", "_law_one", "_law_other", "_law_stay", "_law_group", "_law_fresh", "_law_grown", "_law_name", "_law_k"]⟩
noncomputable abbrev A2 : List Stmt := fB (z4 55)
abbrev R7 (G : Gl) : Prop := FnAt G.B G.mg "_law_branch" t0 4 A2
noncomputable def P2 : Sx := ⟨fS (z4 56), ["_law_plain", "_law_way", "_law_one", "_law_other", "_law_number", "_law_grown", "_law_name", "_law_had"]⟩
noncomputable abbrev P3 : List Stmt := fB (z4 56)
abbrev K7 (G : Gl) : Prop := FnAt G.B G.mg "_law_due" P2 5 P3
noncomputable def y1 : Sx := ⟨fS (z4 57), ["_law_trail", "_law_past", "_law_way", "_law_word", "_law_more", "_law_plain", "_law_texts", "_law_text", "_law_sign", "_law_name", "_law_k"]⟩
noncomputable abbrev C6 : List Stmt := fB (z4 57)
abbrev aF9 (G : Gl) : Prop := FnAt G.B G.mg "_law_begun" y1 5 C6
noncomputable def ab3 : Sx := ⟨fS (z4 58), ["_law_begin", "_law_word", "_law_told"]⟩
noncomputable abbrev m9 : List Stmt := fB (z4 58)
abbrev N7 (G : Gl) : Prop := FnAt G.B G.mg "_law_first_deeds" ab3 2 m9
noncomputable def af6 : Sx := ⟨fS (z4 59), ["_law_trail", "_law_start", "_law_plain", "_law_kept", "_law_due_here", "_law_got", "_law_all_of", "_law_again"]⟩
noncomputable abbrev af8 : List Stmt := fB (z4 59)
abbrev aF8 (G : Gl) : Prop := FnAt G.B G.mg "_law_tells" af6 4 af8
noncomputable def A4 : Sx := ⟨fS (z4 60), ["_law_script", "_law_trail", "_law_past", "_law_kept", "_law_begin", "_law_more", "_law_word", "_law_plain", "_law_first", "_law_size", "_law_at", "_law_cell", "_law_held", "_law_way", "_law_one", "_law_other", "_law_number", "_law_due_here", "_law_start"]⟩
noncomputable abbrev aQ0 : List Stmt := fB (z4 60)
end Mine
namespace Mine
noncomputable def lcp : List Nat → List Nat → Nat
 | a :: as, b :: bs => if a = b then lcp as bs + 1 else 0
 | _, _ => 0
theorem au9 : ∀ (a b : List Nat), lcp a b ≤ a.length ∧ lcp a b ≤ b.length
 | a :: as, b :: bs => by
  unfold lcp; have := au9 as bs; split <;> simp <;> (exact this)
 | [], _ => by simp [lcp]
 | _ :: _, [] => by simp [lcp]
theorem aB3 : ∀ (a b : List Nat) (k : Nat), k ≤ lcp a b → ((k < a.length ∧ k < b.length ∧ a.getD k 0 = b.getD k 0) ↔ k < lcp a b)
 | a :: as, b :: bs, 0, _ => by
  unfold lcp; by_cases h : a = b <;> simp [h]
 | a :: as, b :: bs, k + 1, h => by
  unfold lcp at h ⊢
  split at h
  ·rename_i e
   rw [if_pos e]
   have := aB3 as bs k (by exact n8 _ _ (.k 1 i9 y0 .o) c8 d5 tt h)
   simp only [List.length_cons, List.getD_cons_succ]
   (exact a2 this h)
  ·(exact (f'1 _ (.k 1 i9 w9 .o) tt h).elim)
 | [], _, k, h => by simp [lcp]
 | _ :: _, [], k, h => by simp [lcp]
end Mine
namespace Mine
abbrev Rw := List Nat × Int
def Srt (rs : List Rw) : Prop := rs.Pairwise fun a b => a.1 < b.1
theorem O8 {p a b : List Nat} : p ++ a < p ++ b ↔ a < b := by
 induction p with
 | nil => simp
 | cons x p ih => simp [ih]
theorem au7 (a b : List Nat) : a < b ∨ a = b ∨ b < a := by
 by_cases h1 : a < b
 ·exact .inl h1
 ·by_cases h2 : b < a
  ·exact .inr (.inr h2)
  ·exact .inr (.inl (List.le_antisymm (List.not_lt.mp h2) (List.not_lt.mp h1)))
theorem aO1 : ∀ {a b c : List Nat}, ¬ b < a → ¬ c < b → b.take (lcp a c) = a.take (lcp a c)
 | x :: as, b, z :: cs, h1, h2 => by
  unfold lcp
  split
  ·rename_i e; subst e
   cases b with
   | nil => exact absurd (List.nil_lt_cons _ _) h1
   | cons y bs =>
    rw [List.cons_lt_cons_iff] at h1 h2
    have : y = x := by (first | lia | omega)
    subst this
    simp only [List.take_succ_cons, List.cons.injEq, true_and]
    exact aO1 (fun q => h1 (.inr ⟨rfl, q⟩)) (fun q => h2 (.inr ⟨rfl, q⟩))
  ·simp
 | [], _, _, _, _ => by simp [lcp]
 | _ :: _, _, [], _, _ => by simp [lcp]
noncomputable def sg (k : Nat) (r : Rw) : List Nat := (r.1.drop k).take 1
noncomputable def K4 (k : Nat) (r : Rw) : Rw := (r.1.drop (k + 1), r.2)
theorem aA4 (k : Nat) (a : List Nat) : a.take k ++ ((a.drop k).take 1 ++ a.drop (k + 1)) = a := by
 have : a.drop (k + 1) = (a.drop k).drop 1 := by rw [List.drop_drop]
 rw [this, List.take_append_drop, List.take_append_drop]
noncomputable def aK6 (k : Nat) (gs : List (List Nat × List Rw)) (r : Rw) : List (List Nat × List Rw) :=
 match gs.getLast? with
 | some g => if g.1 = sg k r then gs.dropLast ++ [(g.1, g.2 ++ [r])] else gs ++ [(sg k r, [r])]
 | none => [(sg k r, [r])]
noncomputable def s5 (k : Nat) (rs : List Rw) : List (List Nat × List Rw) := rs.foldl (aK6 k) []
theorem G7 (k : Nat) (rs : List Rw) (r : Rw) : s5 k (rs ++ [r]) = aK6 k (s5 k rs) r := by simp [s5]
theorem G5 {α : Type} (l : List α) : l = [] ∨ ∃ i x, l = i ++ [x] := by
 rcases List.eq_nil_or_concat l with h | ⟨i, x, h⟩
 ·exact .inl h
 ·exact .inr ⟨i, x, by simpa using h⟩
theorem aj5 {α : Type} {P : List α → Prop} (h0 : P []) (hs : ∀ l x, P l → P (l ++ [x])) (l : List α) : P l := by
 have : ∀ n (l : List α), l.length = n → P l := by
  intro n
  induction n with
  | zero => intro l h; rw [List.length_eq_zero_iff] at h; subst h; exact h0
  | succ n ih =>
   intro l h
   rcases G5 l with rfl | ⟨i, x, rfl⟩
   ·simp at h
   ·exact hs i x (ih i (by simpa using h))
 exact this _ l rfl
theorem an3 (k : Nat) (r : Rw) : aK6 k [] r = [(sg k r, [r])] := rfl
theorem W1 (k : Nat) (gs : List (List Nat × List Rw)) (s : List Nat) (g : List Rw) (r : Rw) (h : s = sg k r) : aK6 k (gs ++ [(s, g)]) r = gs ++ [(s, g ++ [r])] := by
 unfold aK6; simp [h]
theorem ab2 (k : Nat) (gs : List (List Nat × List Rw)) (s : List Nat) (g : List Rw) (r : Rw) (h : s ≠ sg k r) : aK6 k (gs ++ [(s, g)]) r = gs ++ [(s, g)] ++ [(sg k r, [r])] := by
 unfold aK6; simp [h]
theorem E2 (k : Nat) (rs : List Rw) : (s5 k rs).flatMap (·.2) = rs := by
 induction rs using aj5 with
 | h0 => rfl
 | hs rs r ih =>
  rw [G7]
  rcases G5 (s5 k rs) with h | ⟨gs, ⟨s, g⟩, h⟩
  ·rw [h, an3]; rw [h] at ih; simp at ih; subst ih; simp
  ·rw [h] at ih ⊢
   by_cases e : s = sg k r
   ·rw [W1 k gs s g r e]; simp at ih ⊢; rw [← List.append_assoc, ih]
   ·rw [ab2 k gs s g r e, List.flatMap_append, ih]; simp
theorem I4 (k : Nat) (rs : List Rw) : ∀ g ∈ s5 k rs, g.2 ≠ [] ∧ ∀ r ∈ g.2, sg k r = g.1 := by
 induction rs using aj5 with
 | h0 => intro g hg; simp [s5] at hg
 | hs rs r ih =>
  rw [G7]
  rcases G5 (s5 k rs) with h | ⟨gs, ⟨s, g⟩, h⟩
  ·rw [h, an3]
   intro q hq
   rw [List.mem_singleton] at hq; subst hq
   exact ⟨by simp, fun x hx => by rw [List.mem_singleton] at hx; subst hx; rfl⟩
  ·rw [h] at ih ⊢
   by_cases e : s = sg k r
   ·rw [W1 k gs s g r e]
    intro q hq
    rcases List.mem_append.mp hq with hq | hq
    ·exact ih q (List.mem_append_left _ hq)
    ·simp at hq; subst hq
     refine ⟨by simp, fun x hx => ?_⟩
     rcases List.mem_append.mp hx with hx | hx
     ·exact (ih (s, g) (by simp)).2 x hx
     ·simp at hx; subst hx; exact e.symm
   ·rw [ab2 k gs s g r e]
    intro q hq
    rcases List.mem_append.mp hq with hq | hq
    ·exact ih q hq
    ·rw [List.mem_singleton] at hq; subst hq
     exact ⟨by simp, fun x hx => by rw [List.mem_singleton] at hx; subst hx; rfl⟩
structure Pre (k : Nat) (rs : List Rw) : Prop where
 srt : Srt rs
 pre : ∀ a ∈ rs, ∀ b ∈ rs, a.1.take k = b.1.take k
theorem bd3 {k : Nat} {a b : List Nat} (h : a.take k = b.take k) (l : a < b) : a.drop k < b.drop k := by
 rw [← List.take_append_drop k a, ← List.take_append_drop k b, h, O8] at l; exact l
theorem bG6 {k : Nat} {a b : Rw} (h : a.1.take k = b.1.take k) (l : a.1 < b.1) : sg k a = sg k b ∨ sg k a < sg k b := by
 have := bd3 h l
 unfold sg
 cases ha : a.1.drop k with
 | nil =>
  cases hb : b.1.drop k with
  | nil => exact .inl rfl
  | cons y bs => right; simp
 | cons x as =>
  cases hb : b.1.drop k with
  | nil => rw [ha, hb] at this; exact absurd this (List.not_lt_nil _)
  | cons y bs =>
   rw [ha, hb, List.cons_lt_cons_iff] at this
   rcases this with q | ⟨q, _⟩
   ·right; simp [List.cons_lt_cons_iff, q]
   ·left; simp [q]
theorem al2 {k : Nat} {rs : List Rw} {g : List Nat × List Rw} (hg : g ∈ s5 k rs) {r : Rw} (hr : r ∈ g.2) : r ∈ rs := by
 rw [← E2 k rs]; exact List.mem_flatMap.mpr ⟨g, hg, hr⟩
theorem ao4 {k : Nat} {rs : List Rw} (P : Pre k rs) : (s5 k rs).Pairwise fun a b => a.1 < b.1 := by
 induction rs using aj5 with
 | h0 => simp [s5]
 | hs rs r ih =>
  have P' : Pre k rs := ⟨(List.pairwise_append.mp P.srt).1, fun a ha b hb => P.pre a (List.mem_append_left _ ha) b (List.mem_append_left _ hb)⟩
  have ih := ih P'
  have hm := I4 k rs
  rw [G7]
  rcases G5 (s5 k rs) with h | ⟨gs, ⟨s, g⟩, h⟩
  ·rw [h, an3]; simp
  ·have key : ∀ q ∈ s5 k rs, q.1 = sg k r ∨ q.1 < sg k r := by
    intro q hq
    obtain ⟨hne, hs⟩ := hm q hq
    obtain ⟨x, xs, hx⟩ := List.exists_cons_of_ne_nil hne
    have hxm : x ∈ q.2 := by rw [hx]; simp
    have := hs x hxm
    rw [← this]
    have hxr := al2 hq hxm
    exact bG6 (P.pre x (List.mem_append_left _ hxr) r (by simp)) ((List.pairwise_append.mp P.srt).2.2 x hxr r (by simp))
   rw [h] at ih key ⊢
   by_cases e : s = sg k r
   ·rw [W1 k gs s g r e]
    rw [List.pairwise_append] at ih ⊢
    exact ⟨ih.1, by simp, fun a ha b hb => by simp at hb; subst hb; exact ih.2.2 a ha (s, g) (by simp)⟩
   ·rw [ab2 k gs s g r e]
    rw [List.pairwise_append]
    refine ⟨ih, by simp, fun a ha b hb => ?_⟩
    simp at hb; subst hb
    have hsl : s < sg k r := (key (s, g) (by simp)).resolve_left e
    rcases List.mem_append.mp ha with ha | ha
    ·exact List.lt_trans ((List.pairwise_append.mp ih).2.2 a ha (s, g) (by simp)) hsl
    ·simp at ha; subst ha; exact hsl
theorem Q4 {k : Nat} {rs : List Rw} (P : Pre k rs) {g : List Nat × List Rw} (hg : g ∈ s5 k rs) : rs.filter (fun r => decide (sg k r = g.1)) = g.2 := by
 have hm := I4 k rs
 have hs := ao4 P
 have hf := E2 k rs
 generalize s5 k rs = gs at hg hm hs hf
 subst hf
 induction gs with
 | nil => cases hg
 | cons q gs ih =>
  rw [List.flatMap_cons, List.filter_append]
  have hs' := List.pairwise_cons.mp hs
  rcases List.mem_cons.mp hg with rfl | hg
  ·have h1 : g.2.filter (fun r => decide (sg k r = g.1)) = g.2 := List.filter_eq_self.mpr fun r hr => by simpa using (hm g (by simp)).2 r hr
   have h2 : (gs.flatMap (·.2)).filter (fun r => decide (sg k r = g.1)) = [] := List.filter_eq_nil_iff.mpr fun r hr => by
    obtain ⟨q, hq, hrq⟩ := List.mem_flatMap.mp hr
    rw [(hm q (by simp [hq])).2 r hrq]
    have := hs'.1 q hq
    simp; rintro e; rw [e] at this; exact List.lt_irrefl _ this
   rw [h1, h2, List.append_nil]
  ·have h1 : q.2.filter (fun r => decide (sg k r = g.1)) = [] := List.filter_eq_nil_iff.mpr fun r hr => by
    rw [(hm q (by simp)).2 r hr]
    have := hs'.1 g hg
    simp; rintro e; rw [e] at this; exact List.lt_irrefl _ this
   rw [h1, List.nil_append]
   refine ih hg (fun x hx => hm x (by simp [hx])) hs'.2 ?_
   refine ⟨?_, fun a ha b hb => P.pre a ?_ b ?_⟩
   ·have := P.srt; unfold Srt at this; rw [List.flatMap_cons, List.pairwise_append] at this; exact this.2.1
   ·rw [List.flatMap_cons]; exact List.mem_append_right _ ha
   ·rw [List.flatMap_cons]; exact List.mem_append_right _ hb
theorem aS7 {k : Nat} {rs : List Rw} (P : Pre k rs) {g : List Nat × List Rw} (hg : g ∈ s5 k rs) : Srt (g.2.map (K4 k)) := by
 have hm := (I4 k rs g hg).2
 rw [← Q4 P hg]
 rw [← Q4 P hg] at hm
 unfold Srt
 rw [List.pairwise_map]
 refine List.Pairwise.imp_of_mem ?_ (List.Pairwise.sublist List.filter_sublist P.srt)
 intro a b ha hb l
 have ea := hm a ha
 have eb := hm b hb
 have hp := P.pre a (List.mem_filter.mp ha).1 b (List.mem_filter.mp hb).1
 have pa := aA4 k a.1
 have pb := aA4 k b.1
 unfold sg at ea eb
 rw [ea] at pa; rw [eb] at pb
 rw [← pa, ← pb, hp, O8, O8] at l
 exact l
noncomputable def r9 (rs : List Rw) : Nat := match rs.head?, rs.getLast? with
 | some a, some b => lcp a.1 b.1
 | _, _ => 0
theorem ac6 {a b : Rw} {rs : List Rw} (h : (a :: rs).getLast? = some b) : r9 (a :: rs) = lcp a.1 b.1 := by unfold r9; rw [h]; rfl
theorem at0 {rs : List Rw} (h : Srt rs) : Pre (r9 rs) rs := by
 refine ⟨h, ?_⟩
 cases rs with
 | nil => intro a ha; cases ha
 | cons a rs =>
  obtain ⟨i, b, e⟩ : ∃ i b, a :: rs = i ++ [b] := by
   rcases G5 (a :: rs) with q | q
   ·cases q
   ·exact q
  have hl : (a :: rs).getLast? = some b := by rw [e]; simp
  rw [ac6 hl]
  have key : ∀ x ∈ a :: rs, x.1.take (lcp a.1 b.1) = a.1.take (lcp a.1 b.1) := by
   intro x hx
   refine aO1 ?_ ?_
   ·rcases List.mem_cons.mp hx with rfl | hx
    ·exact List.lt_irrefl _
    ·exact fun q => List.lt_irrefl _ (List.lt_trans q ((List.pairwise_cons.mp h).1 x hx))
   ·rw [e] at hx h
    rcases List.mem_append.mp hx with hx | hx
    ·exact fun q => List.lt_irrefl _ (List.lt_trans q ((List.pairwise_append.mp h).2.2 x hx b (by simp)))
    ·simp at hx; subst hx; exact List.lt_irrefl _
  intro x hx y hy
  rw [key x hx, key y hy]
theorem P7 {xs ys : List Rw} (hx : Srt xs) (hy : Srt ys) (h : xs.Perm ys) : xs = ys := by
 refine h.eq_of_pairwise ?_ hx hy
 intro a b _ _ l1 l2
 exact absurd (List.lt_trans l1 l2) (List.lt_irrefl _)
def Dst (rs : List Rw) : Prop := rs.Pairwise fun a b => a.1 ≠ b.1
theorem Srt.dst {rs : List Rw} (h : Srt rs) : Dst rs := h.imp fun l e => by rw [e] at l; exact List.lt_irrefl _ l
theorem Dst.perm {xs ys : List Rw} (h : xs.Perm ys) (d : Dst xs) : Dst ys := h.pairwise d fun l => Ne.symm l
theorem Dst.filter {xs : List Rw} (p : Rw → Bool) (d : Dst xs) : Dst (xs.filter p) := List.Pairwise.sublist List.filter_sublist d
theorem Srt.filter {xs : List Rw} (p : Rw → Bool) (d : Srt xs) : Srt (xs.filter p) := List.Pairwise.sublist List.filter_sublist d
theorem ba7 {rs : List Rw} (d : Dst rs) (h : rs.Pairwise fun a b => ¬ b.1 < a.1) : Srt rs := by
 refine List.Pairwise.imp ?_ (List.pairwise_and_iff.mpr ⟨d, h⟩)
 rintro a b ⟨h1, h2⟩
 rcases au7 a.1 b.1 with q | q | q
 ·exact q
 ·exact absurd q h1
 ·exact absurd q h2
end Mine
namespace Mine
end Mine
namespace Mine
open PySem PySem.W PyProof.Rows
noncomputable def lit (s : String) : List Nat := s.toList.map Char.toNat
theorem C5 : sizeLine = 16777216 := rfl
theorem ag1 {n : Nat} (h : n ≤ sizeLine) : n < 2 ^ 62 := Nat.lt_of_le_of_lt h (by decide)
theorem bn9 (n : Nat) : -(2 ^ 62) ≤ (n : Int) := by exact bE0
theorem aS6 {n : Nat} (h : n < 2 ^ 62) : (n : Int) < 2 ^ 62 := by exact Int.ofNat_lt.mpr (o5 _ (.k 1 i9 (.num 4611686018427387904) .o) i9 (.num 4611686018427387904) tt h)
theorem n0 (n : Nat) : 0 ≤ (n : Int) := Int.natCast_nonneg n
theorem sz0 : 0 ≤ sizeLine := by decide
theorem sz1 : 1 ≤ sizeLine := by decide
theorem sz2 : 2 ≤ sizeLine := by decide
theorem sz3 : 3 ≤ sizeLine := by decide
theorem Y7 {n i : Nat} {x : V} (h : ((List.range ((n : Int) - 0).toNat).map fun (i : Nat) => V.int (0 + (i : Int)))[i]? = some x) : i < n ∧ x = .int i := by
 have hi : i < n := by have := (List.getElem?_eq_some_iff.mp h).1; simpa using this
 simp [List.getElem?_range hi] at h
 exact ⟨hi, h.symm⟩
theorem at5 (n : Nat) : ((List.range ((n : Int) - 0).toNat).map fun (i : Nat) => V.int (0 + (i : Int))).length = n := by simp
theorem aw0 {c m : Int} (h : 0 < m) (h2 : m < 2 ^ 62) : c % m < 2 ^ 62 := Int.lt_trans (Int.emod_lt_of_pos c h) h2
theorem E8 (c : Int) {m : Int} (h : 0 < m) : 0 ≤ c % m := Int.emod_nonneg c (Int.ne_of_gt h)
theorem bv9 (c a b : Int) : [V.int a, V.int b][(c % 2).toNat]? = some (.int (if c % 2 = 0 then a else b)) := by
 rcases Int.emod_two_eq c with e | e <;> rw [e] <;> rfl
theorem Ev.to {G : Gl} {K : Sx} {ρ : List V} {σ : Ow} {e : PySem.Expr} {x y : V} (h : Ev G K ρ σ e x) (hx : x = y) : Ev G K ρ σ e y := hx ▸ h
section
variable {G : Gl}
theorem aU5 (FA : X1 G) {zs : List Int} (hz : zs.length ≤ 63) {k : Int} (hk : 0 ≤ k) (hd : 0 < G.d) : Pure G "_law_cell_at" [.scr (zs.map .int), .int k] (.int (zs.getD k.toNat 0)) := by
 refine l7 FA rfl hd (f8 (d8 (a8 1 rfl) (aO9 (a8 0 rfl) (by rw [List.length_map]; exact o5 _ (.k 1 c8 (.num 63) .o) i9 (.num 4611686018427387904) tt hz)) as0) (fun h => ?_) (fun h => ?_))
 ·have h := of_decide_eq_true h
  rw [List.length_map] at h
  refine g8 (bq6 (a8 0 rfl) (a8 1 rfl) hk (by exact bY8 h hz) ?_) (.id _)
  have hn : k.toNat < zs.length := by exact bK3 hk h
  rw [List.getElem?_map, List.getElem?_eq_getElem hn, List.getD_eq_getElem?_getD, List.getElem?_eq_getElem hn]; rfl
 ·have h := of_decide_eq_false h
  rw [List.length_map] at h
  refine d6 (g8 c9 ?_)
  rw [List.getD_eq_getElem?_getD, List.getElem?_eq_none (by exact bY7 hk h)]; exact .id _
noncomputable def nxt (n : Int) : Int := (n * 48271 + 11) % 2147483647
noncomputable def aq5 : List Nat := lit " !\"#$&'()*+,-./0123456789:;<=>?@ABCDEFGHIJKLMNOPQRSTUVWXYZ[\\]^_`" ++ lit "abcdefghijklmnopqrstuvwxyz{|}~"
theorem P9 : aq5.length = 94 := by decide +kernel
noncomputable def aj8 (c : Int) : Nat := aq5.getD (c % 94).toNat 0
noncomputable def ab8 (c : Int) : Nat → Int → List Nat → Int × List Nat
 | 0, n, w => (n, w)
 | k + 1, n, w => let r := ab8 c k n w; (nxt r.1, r.2 ++ [aj8 (65 + nxt r.1 / 7 % (if c % 2 = 0 then 2 else 94))])
noncomputable def N8 (c : Int) (n : Nat) : List Nat := (ab8 c n c []).2
theorem X4 (c : Int) : ∀ (k : Nat) (n : Int) (w : List Nat), (ab8 c k n w).2.length = w.length + k
 | 0, _, _ => rfl
 | k + 1, n, w => by show (_ ++ [_]).length = _; rw [List.length_append, X4 c k]; rfl
theorem P6 (c : Int) (n : Nat) : (N8 c n).length = n := by unfold N8; rw [X4]; exact Nat.zero_add _
theorem aU0 (FA : F9 G) {c : Int} (hd : 0 < G.d) : Pure G "_law_sign_by" [.int c] (.str [aj8 c]) := by
 refine l7 FA rfl hd (i8 1 am3 (i8 1 (E7 (a8 1 rfl) am3 (by decide +kernel)) ?_))
 refine g8 (x := .str [aq5.getD (c % 94).toNat 0]) (av8 (a := aq5) (a8 1 (by kernel_rfl)) (x9 (a8 0 rfl) c9 (by decide)) (E8 c (by decide)) ?_ ?_) (.id _)
 ·rw [P9]; exact Int.emod_lt_of_pos c (by decide)
 ·rw [P9]; decide
theorem ad7 (FA : J2 G) (FS : F9 G) {c : Int} {n : Nat} (hn : n ≤ 1000) (hd : 1 < G.d) : Pure G "_law_word_by" [.int c, .int n] (.str (N8 c n)) := by
 refine l7 FA rfl (by first | exact Nat.le_trans (by decide) hd | exact Nat.le_trans (by decide) hG) (i8 2 am3 (i8 3 (a8 0 rfl) ?_))
 refine D6 (fun i ρ σ => ∃ kv, ρ = [.int c, .int n, .str (ab8 c i c []).2, .int (ab8 c i c []).1, kv] ∧ σ = σ0) (G8 (a8 1 rfl) (bn9 n) (by exact Int.ofNat_lt.mpr (o5 _ (.k 1 c8 (.num 1000) .o) i9 (.num 4611686018427387904) tt hn))) rfl ⟨.unb, rfl, rfl⟩ ?_ ?_
 ·rintro i ρ σ y hy ⟨kv, rfl, rfl⟩
  obtain ⟨hi, rfl⟩ := Y7 hy
  refine ⟨_, C2 4, i8 3 (x9 (H5 (Q8 (a8 3 rfl) c9 (.of_right (by decide))) c9) c9 (by decide)) (i8 2 ?_ (d6 ⟨_, rfl, rfl⟩))⟩
  refine E7 (a8 2 rfl) (d7 (aU0 (G := G.dn) FS (by first | exact dl hd | exact dl0 hd | (show 0 < G.d - 1; first | (first | lia | omega) | (first | lia | omega)))) (b8 (H5 c9 (x9 (B3 (a8 3 rfl) c9 (by decide) (by decide)) (B2 (z6 (b8 c9 (b8 c9 b9)) sz2) (x9 (a8 0 rfl) c9 (by decide)) (E8 c (by decide)) (aw0 (by decide) (by decide)) (bv9 c _ _)) (by split <;> decide))) b9)) ?_
  rw [X4, C5]; show 0 + i + 1 ≤ _; exact n8 _ _ (.k 1 i9 d5 (.k 1 d5 (.num 1000) .o)) (.add (.add w9 c8) k9) (.num 16777216) tt hi hn
 ·rintro ρ σ ⟨kv, rfl, rfl⟩
  rw [at5]
  exact g8 (a8 2 rfl) (.id _)
end
section
variable {G : Gl}
noncomputable def ak7 (c : Int) : Nat → Int × Int
 | 0 => (c, 0)
 | k + 1 => (nxt (ak7 c k).1, (ak7 c k).2 * 10 + nxt (ak7 c k).1 / 7 % 10)
noncomputable def bc3 (c : Int) : Int := if 1 < c % 5 then c / 5 % 39 - 19 else (if c / 5 % 2 = 0 then 1 else -1) * (ak7 c (if c % 5 = 0 then 60 else (1 + c / 10 % 60).toNat)).2
theorem aD4 (FA : S6 G) {c : Int} (hd : 0 < G.d) : Pure G "_law_number_by" [.int c] (.int (bc3 c)) := by
 refine l7 FA rfl hd (f8 (d8 (x9 (a8 0 rfl) c9 (by decide)) c9 P1) (fun h => ?_) (fun h => ?_))
 ·rw [show bc3 c = c / 5 % 39 - 19 from if_pos (of_decide_eq_true h)]
  exact g8 (aJ2 (x9 (B3 (a8 0 rfl) c9 (by decide) (by decide)) c9 (by decide)) c9) (.id _)
 ·have hc := of_decide_eq_false h
  rw [show bc3 c = (if c / 5 % 2 = 0 then 1 else -1) * (ak7 c (if c % 5 = 0 then 60 else (1 + c / 10 % 60).toNat)).2 from if_neg hc]
  obtain ⟨n, hn, e1⟩ : ∃ n : Nat, n ≤ 60 ∧ n = (if c % 5 = 0 then 60 else (1 + c / 10 % 60).toNat) := ⟨_, by split <;> (first | exact l'0  .o (.num 60) (.num 60) tt  | exact bQ8 ), rfl⟩
  rw [← e1]
  have hv : [V.int 60, V.int (1 + c / 10 % 60)][(c % 5).toNat]? = some (.int n) := by
   rw [e1]
   rcases (show c % 5 = 0 ∨ c % 5 = 1 by exact bQ7 hc) with e | e <;> rw [e]
   ·rfl
   ·show some (V.int _) = some (V.int _)
    rw [if_neg (by decide), Int.toNat_of_nonneg (by exact bQ6 )]
  refine d6 (i8 1 (B2 (z6 (b8 c9 (b8 (H5 c9 (x9 (B3 (a8 0 rfl) c9 (by decide) (by decide)) c9 (by decide))) b9)) sz2) (x9 (a8 0 rfl) c9 (by decide)) (E8 c (by decide)) (aw0 (by decide) (by decide)) hv) (i8 2 c9 (i8 3 (a8 0 rfl) ?_)))
  refine D6 (fun i ρ σ => ∃ kv, ρ = [.int c, .int n, .int (ak7 c i).2, .int (ak7 c i).1, kv] ∧ σ = σ0) (G8 (a8 1 rfl) (bn9 n) (by exact Int.ofNat_lt.mpr (o5 _ (.k 1 c8 (.num 60) .o) i9 (.num 4611686018427387904) tt hn))) rfl ⟨.unb, rfl, rfl⟩ ?_ ?_
  ·rintro i ρ σ y hy ⟨kv, rfl, rfl⟩
   obtain ⟨hi, rfl⟩ := Y7 hy
   exact ⟨_, C2 4, i8 3 (x9 (H5 (Q8 (a8 3 rfl) c9 (.of_right (by decide))) c9) c9 (by decide)) (i8 2 (H5 (Q8 (a8 2 rfl) c9 (.of_right (by decide))) (x9 (B3 (a8 3 rfl) c9 (by decide) (by decide)) c9 (by decide))) (d6 ⟨_, rfl, rfl⟩))⟩
  ·rintro ρ σ ⟨kv, rfl, rfl⟩
   rw [at5]
   exact g8 (Q8 (B2 (z6 (b8 c9 (b8 (av5 c9) b9)) sz2) (x9 (B3 (a8 0 rfl) c9 (by decide) (by decide)) c9 (by decide)) (E8 _ (by decide)) (aw0 (by decide) (by decide)) (bv9 _ _ _)) (a8 2 rfl) (.of_left (by split <;> decide))) (.id _)
theorem br6 (FA : U8 G) {c : Int} (hd : 0 < G.d) : Pure G "_law_whole" [.int c] (.bool true) :=
 l7 FA rfl hd (g8 (Q9 (H4 (y3 4 al4 (a8 0 rfl)) fun _ => Q5 (bB2 (y3 11 aB8 (a8 0 rfl))))) (.id _))
noncomputable def V.nt : V → Bool
 | .int _ | .str _ | .tup _ | .lst _ => true
 | _ => false
theorem bc4 {x : V} {F : Fz} {v : Value} (h : x.nt = true) (r : Rel F x v) : v ≠ .bool true ∧ plainIs v (.bool true) = true := by
 cases x <;> first | (cases h; done) | skip
 ·obtain ⟨_, rfl⟩ := r; exact ⟨nofun, rfl⟩
 ·obtain ⟨_, rfl⟩ := r; exact ⟨nofun, rfl⟩
 ·obtain ⟨_, _, rfl, _⟩ := r; exact ⟨nofun, rfl⟩
 ·obtain ⟨_, _, rfl, _⟩ := r; exact ⟨nofun, rfl⟩
theorem aa9 {G : Gl} {x : V} (h : x.nt = true) : Cm G .Is x (.bool true) false := by rintro A F s E _ _ R _ r rfl h'; exact wpAny_is_other (bc4 h r).2 (bc4 h r).1 h'
inductive Pl : Nat → V → Prop
 | none (n : Nat) : Pl (n + 1) .none
 | tru (n : Nat) : Pl (n + 1) (.bool true)
 | str (n : Nat) (s : List Nat) : Pl (n + 1) (.str s)
 | int (n : Nat) (i : Int) : Pl (n + 1) (.int i)
 | tup (n : Nat) {xs : List V} : xs.length ≤ sizeLine → (∀ x ∈ xs, Pl n x) → Pl (n + 1) (.tup xs)
 | lst (n : Nat) {xs : List V} : xs.length ≤ sizeLine → (∀ x ∈ xs, Pl n x) → Pl (n + 1) (.lst xs)
theorem Pl.up {n : Nat} {x : V} (h : Pl n x) : Pl (n + 1) x := by
 induction h with
 | none n => exact .none _
 | tru n => exact .tru _
 | str n s => exact .str _ s
 | int n i => exact .int _ i
 | tup n hl _ ih => exact .tup _ hl ih
 | lst n hl _ ih => exact .lst _ hl ih
theorem K5 : ∀ (n : Nat) {G : Gl} {x : V}, af9 G → U8 G → Pl n x → n + 1 ≤ G.d → Pure G "_law_alike" [x, x] (.bool true) := by
 intro n
 induction n with
 | zero => intro G x FA FW h; cases h
 | succ n ih =>
  intro G x FA FW h hd
  cases h with
  | none => exact l7 FA rfl (by exact aD9 hd) (f8 (d8 (a8 1 rfl) o9 C9) (fun _ => g8 (F0 (a8 0 rfl) o9 C9) (.id _)) nF)
  | tru => exact l7 FA rfl (Nat.lt_of_lt_of_le (Nat.succ_pos _) hd) (f8 (d8 (a8 1 rfl) o9 (B4 rfl)) nT fun _ => d6 (f8 (d8 (a8 1 rfl) y7 am8) (fun _ => g8 (F0 (a8 0 rfl) y7 am8) (.id _)) nF))
  | str s =>
   refine l7 FA rfl (by exact aD9 hd) (f8 (d8 (a8 1 rfl) o9 (B4 rfl)) nT fun _ => d6 (f8 (d8 (a8 1 rfl) y7 (aa9 rfl)) nT fun _ => d6 (f8 (z8 (y3 10 Q2 (a8 1 rfl))) (fun _ => ?_) nF)))
   exact g8 (Q9 (H4 (y3 10 Q2 (a8 0 rfl)) fun _ => Q5 (F0 (a8 0 rfl) (a8 1 rfl) J9))) (by rw [beq_self_eq_true]; exact Res.id _)
  | int i =>
   refine l7 FA rfl (by exact aD9 hd) (f8 (d8 (a8 1 rfl) o9 (B4 rfl)) nT fun _ => d6 (f8 (d8 (a8 1 rfl) y7 (aa9 rfl)) nT fun _ => d6 (f8 (z8 (y3 10 X6 (a8 1 rfl))) nT fun _ => d6 (f8 (z8 (y3 4 al4 (a8 1 rfl))) (fun _ => ?_) nF))))
   exact g8 (Q9 (H4 (d7 (br6 (G := G.dn) FW (by first | exact dl hd | exact dl0 hd | (show 0 < G.d - 1; first | (exact bP8 hd) | (first | lia | omega)))) (b8 (a8 0 rfl) b9)) fun _ => Q5 (F0 (a8 0 rfl) (a8 1 rfl) m7))) (by rw [beq_self_eq_true]; exact Res.id _)
  | @tup _ xs hl hx =>
   refine l7 FA rfl (by exact aD9 hd) (f8 (d8 (a8 1 rfl) o9 (B4 rfl)) nT fun _ => d6 (f8 (d8 (a8 1 rfl) y7 (aa9 rfl)) nT fun _ => d6 (f8 (z8 (y3 10 aI4 (a8 1 rfl))) nT fun _ => d6 (f8 (z8 (y3 4 aI5 (a8 1 rfl))) nT fun _ => d6 ?_))))
   refine f8 (v1 (y2 (z8 (y3 5 Z7 (a8 1 rfl))) fun _ => x6 (D7 (z8 (y3 5 Z7 (a8 0 rfl)))))) nT fun _ => d6 ?_
   refine f8 (v1 (y2 (z8 (y3 6 aB7 (a8 1 rfl))) nT (c := true))) nT fun _ => d6 ?_
   refine f8 (d8 (av6 (a8 0 rfl) (ag1 hl)) (av6 (a8 1 rfl) (ag1 hl)) aw1) (fun h => by simp at h) fun _ => d6 ?_
   refine D6 (fun i ρ σ => ∃ kv, ρ = [.tup xs, .tup xs, kv] ∧ σ = σ0) (G8 (av6 (a8 1 rfl) (ag1 hl)) (bn9 _) (aS6 (ag1 hl))) rfl ⟨.unb, rfl, rfl⟩ ?_ ?_
   ·rintro i ρ σ y hy ⟨kv, rfl, rfl⟩
    obtain ⟨hi, rfl⟩ := Y7 hy
    have hz : xs[(i : Int).toNat]? = some xs[i] := List.getElem?_eq_getElem hi
    refine ⟨_, C2 2, f8 (D7 (z8 (d7 (ih (G := G.dn) FA FW (hx _ (List.getElem_mem hi)) (by first | exact dl hd | exact dl0 hd | (show n + 1 ≤ G.d - 1; first | (exact bD3 hd) | (first | lia | omega)))) (b8 (o6 (a8 0 rfl) (a8 2 rfl) (n0 i) (aS6 (Nat.lt_trans hi (ag1 hl))) hz) (b8 (o6 (a8 1 rfl) (a8 2 rfl) (n0 i) (aS6 (Nat.lt_trans hi (ag1 hl))) hz) b9))))) nT fun _ => d6 (d6 ⟨_, rfl, rfl⟩)⟩
   ·rintro ρ σ ⟨kv, rfl, rfl⟩
    exact g8 y7 (.id _)
  | @lst _ xs hl hx =>
   refine l7 FA rfl (by exact aD9 hd) (f8 (d8 (a8 1 rfl) o9 (B4 rfl)) nT fun _ => d6 (f8 (d8 (a8 1 rfl) y7 (aa9 rfl)) nT fun _ => d6 (f8 (z8 (y3 10 aI6 (a8 1 rfl))) nT fun _ => d6 (f8 (z8 (y3 4 aI7 (a8 1 rfl))) nT fun _ => d6 ?_))))
   refine f8 (v1 (y2 (z8 (y3 5 av1 (a8 1 rfl))) nT (c := true))) nT fun _ => d6 ?_
   refine f8 (v1 (y2 (z8 (y3 6 ae9 (a8 1 rfl))) fun _ => x6 (D7 (z8 (y3 6 ae9 (a8 0 rfl)))))) nT fun _ => d6 ?_
   refine f8 (d8 (A6 (a8 0 rfl) (ag1 hl)) (A6 (a8 1 rfl) (ag1 hl)) aw1) (fun h => by simp at h) fun _ => d6 ?_
   refine D6 (fun i ρ σ => ∃ kv, ρ = [.lst xs, .lst xs, kv] ∧ σ = σ0) (G8 (A6 (a8 1 rfl) (ag1 hl)) (bn9 _) (aS6 (ag1 hl))) rfl ⟨.unb, rfl, rfl⟩ ?_ ?_
   ·rintro i ρ σ y hy ⟨kv, rfl, rfl⟩
    obtain ⟨hi, rfl⟩ := Y7 hy
    have hz : xs[(i : Int).toNat]? = some xs[i] := List.getElem?_eq_getElem hi
    refine ⟨_, C2 2, f8 (D7 (z8 (d7 (ih (G := G.dn) FA FW (hx _ (List.getElem_mem hi)) (by first | exact dl hd | exact dl0 hd | (show n + 1 ≤ G.d - 1; first | (exact bD3 hd) | (first | lia | omega)))) (b8 (B2 (a8 0 rfl) (a8 2 rfl) (n0 i) (aS6 (Nat.lt_trans hi (ag1 hl))) hz) (b8 (B2 (a8 1 rfl) (a8 2 rfl) (n0 i) (aS6 (Nat.lt_trans hi (ag1 hl))) hz) b9))))) nT fun _ => d6 (d6 ⟨_, rfl, rfl⟩)⟩
   ·rintro ρ σ ⟨kv, rfl, rfl⟩
    exact g8 y7 (.id _)
end
noncomputable def R8 (c : Nat) : Bool := (decide ((32 : Int) ≤ c) && decide ((c : Int) ≤ 126)) && !((c : Int) == 37)
noncomputable def E1 (w : List Nat) : Bool := decide (w.length ≤ 40) && w.all R8
structure CW (G : Gl) : Prop where
 is_sign : aX1 G
 is_name : aX2 G
 most : ∃ t, G.mg "MOST_SIGNS" = some (.int 40 t)
 blank : ∃ t, G.mg "BLANK" = some (.int 32 t)
 percent : ∃ t, G.mg "PERCENT" = some (.int 37 t)
 tilde : ∃ t, G.mg "TILDE" = some (.int 126 t)
section
variable {G : Gl}
theorem CW.dn (C : CW G) : CW G.dn := ⟨C.is_sign, C.is_name, C.most, C.blank, C.percent, C.tilde⟩
theorem aU2 (C : CW G) {c : Nat} (hd : 0 < G.d) : Pure G "is_sign" [.str [c]] (.bool (R8 c)) :=
 l7 C.is_sign rfl hd (i8 1 (bB1 (a8 0 rfl)) (g8 (Q9 (H4 (bf6 (N4 (G := G.dn) C.blank) (a8 1 rfl) (N4 (G := G.dn) C.tilde) bg2 bg2) fun _ => Q5 (F0 (a8 1 rfl) (N4 (G := G.dn) C.percent) aw1))) (.id _)))
theorem aU3 (C : CW G) {w : List Nat} (hw : w.length ≤ 1000) (hd : 2 ≤ G.d) : Pure G "is_name" [.str w] (.bool (E1 w)) := by
 have e : (w.filterMap fun c => some (V.bool (R8 c))) = (w.map R8).map .bool := by rw [List.filterMap_eq_map', List.map_map]; rfl
 refine l7 C.is_name rfl (Nat.le_trans (by decide) hd) (f8 (v1 (I1 (D7 (z8 (y3 10 Q2 (a8 0 rfl)))) fun _ => x6 (d8 (B9 (a8 0 rfl) (Nat.lt_of_le_of_lt hw (by decide))) (N4 (G := G.dn) C.most) P1))) (fun h => g8 y7 ?_) fun h => d6 (g8 (bB6 (Ev.to (aa5 (caps := []) (Fv := fun c : Nat => V.str [c]) (ts := w) (fun c => some (V.bool (R8 c))) (a8 0 rfl) rfl (Nat.le_trans hw (by decide)) (fun c hc => O2 (d7 (aU2 (G := G.dn) C.dn (dl hd)) (b8 (a8 0 rfl) b9)))) (congrArg V.lst e))) ?_))
 ·have h : (40 : Int) < w.length := by simpa using h
  show Res _ (.bool false) (.bool (E1 w))
  unfold E1
  rw [decide_eq_false (by (exact fun u1 => (f'1 _ (.k 1 (.add (.num 40) k9) c8 (.k 1 c8 (.num 40) .o)) tt (Int.ofNat_lt.mp h) u1)) : ¬ w.length ≤ 40)]; exact .id _
 ·have h : ¬ (40 : Int) < w.length := by simpa using h
  show Res _ (.bool ((w.map R8).all id)) (.bool (E1 w))
  unfold E1
  rw [decide_eq_true (by (exact o5 _ (.k 1 c8 (.num 40) .o) c8 (.num 40) tt (Nat.le_of_not_lt (fun q => h (Int.ofNat_lt.mpr q)))) : w.length ≤ 40), List.all_map]; exact .id _
end
theorem aj6 {α : Type} (xs : List α) {i : Int} (h : 0 ≤ i) : slice xs none (some i) = xs.take i.toNat := by
 unfold slice w8
 simp only [if_neg (Int.not_lt.mpr h), List.drop_zero]
 rw [Nat.min_def]; split
 ·rfl
 ·rw [List.take_of_length_le (Nat.le_refl _), List.take_of_length_le (by exact bK2 ‹_›)]
theorem az0 {α : Type} (xs : List α) {i : Int} (h : 0 ≤ i) : slice xs (some i) none = xs.drop i.toNat := by
 unfold slice w8
 simp only [if_neg (Int.not_lt.mpr h), List.take_length]
 rw [Nat.min_def]; split
 ·rfl
 ·rw [List.drop_of_length_le (Nat.le_refl _), List.drop_of_length_le (by exact bK2 ‹_›)]
theorem aR1 (s : List Nat) (k : Nat) : slice s (some (k : Int)) (some ((k : Int) + 1)) = (s.drop k).take 1 := by
 unfold slice w8
 have h1 : ¬ ((k : Int) < 0) := by exact fun q => (fun u1 => (f'1 _ (.k 1 i9 w9 .o) tt u1)) (Int.ofNat_lt.mp q)
 have h2 : ¬ ((k : Int) + 1 < 0) := by exact fun q => (fun u1 => (f'1 _ (.k 1 (.add i9 k9) w9 .o) tt u1)) (Int.ofNat_lt.mp q)
 have h3 : ((k : Int) + 1).toNat = k + 1 := by exact bY6 h2
 simp only [if_neg h1, if_neg h2, h3, Int.toNat_natCast]
 by_cases hk : k < s.length
 ·rw [show min (k + 1) s.length = k + 1 by exact bY5 hk, show min k s.length = k by exact bY4 hk, List.drop_take]
  congr 1; exact bK1
 ·rw [show min k s.length = s.length by exact bY3 hk]
  rw [List.drop_eq_nil_of_le (by rw [List.length_take]; exact bY2 ), List.drop_eq_nil_of_le (by exact a33 hk)]; rfl
theorem B7 (s : List Nat) (k : Nat) : slice s none (some (k : Int)) = s.take k := by rw [aj6 _ (by exact bD9 ), Int.toNat_natCast]
theorem P8 (s : List Nat) (k : Nat) : slice s (some (k : Int)) none = s.drop k := by rw [az0 _ (by exact bD9 ), Int.toNat_natCast]
theorem az1 (s : List Nat) (k : Nat) : slice s (some ((k : Int) + 1)) none = s.drop (k + 1) := by rw [az0 _ (by exact Int.ofNat_le.mpr (o5 _ .o w9 i9 tt ))]; rfl
noncomputable def e8 : Nat → List Rw → V
 | 0, _ => .none
 | _ + 1, [] => .none
 | _ + 1, [r] => .tup [.str (lit "leaf"), .str r.1, .int r.2]
 | f + 1, a :: b :: rs => .tup [.str (lit "fork"), .str (a.1.take (r9 (a :: b :: rs))), .tup ((s5 (r9 (a :: b :: rs)) (a :: b :: rs)).map fun g => .tup [.str g.1, e8 f (g.2.map (K4 (r9 (a :: b :: rs))))])]
structure Good (f : Nat) (rs : List Rw) : Prop where
 srt : Srt rs
 len : ∀ r ∈ rs, r.1.length < f
 num : rs.length ≤ 1000
 fuel : f ≤ 300
theorem Good.zero {rs : List Rw} (h : Good 0 rs) : rs = [] := by
 cases rs with
 | nil => rfl
 | cons a rs => exact absurd (h.len a (by simp)) (by exact fun u1 => (f'1 _ (.k 1 i9 w9 .o) tt u1))
theorem I2 (f : Nat) : e8 f [] = .none := by cases f <;> rfl
theorem al7 (k : Nat) (rs : List Rw) : (s5 k rs).length ≤ rs.length := by
 have h := E2 k rs
 have hm := I4 k rs
 generalize s5 k rs = gs at h hm
 subst h
 induction gs with
 | nil => simp
 | cons g gs ih =>
  rw [List.flatMap_cons, List.length_append, List.length_cons]
  have h1 := ih fun x hx => hm x (by simp [hx])
  have h2 : 0 < g.2.length := List.length_pos_iff.mpr (hm g (by simp)).1
  (exact z3 _ _ _ (.k 1 (.add w9 k9) c8 (.k 1 d5 e9 .o)) y0 (.add c8 e9) tt h2 h1)
theorem ar0 {k : Nat} {rs : List Rw} {g : List Nat × List Rw} (hg : g ∈ s5 k rs) : g.2.length ≤ rs.length := by
 have h := E2 k rs
 have hs : g.2.Sublist rs := by
  rw [← h]
  generalize s5 k rs = gs at hg
  induction gs with
  | nil => cases hg
  | cons q gs ih =>
   rw [List.flatMap_cons]
   rcases List.mem_cons.mp hg with rfl | hg
   ·exact List.sublist_append_left ..
   ·exact (ih hg).trans (List.sublist_append_right ..)
 exact hs.length_le
theorem Good.group {f : Nat} {rs : List Rw} (h : Good (f + 1) rs) (h2 : 2 ≤ rs.length) {g : List Nat × List Rw} (hg : g ∈ s5 (r9 rs) rs) : Good f (g.2.map (K4 (r9 rs))) := by
 have hf : 1 ≤ f := by
  match rs, h2, h with
  | a :: b :: rs, _, h =>
   have := (List.pairwise_cons.mp h.srt).1 b (by simp)
   have hb := h.len b (by simp)
   cases e : b.1 with
   | nil => rw [e] at this; exact absurd this (List.not_lt_nil _)
   | cons x xs => rw [e] at hb; simp at hb; exact n8 _ _ (.k 1 i9 d5 .o) k9 d5 tt hb
 refine ⟨aS7 (at0 h.srt) hg, fun r hr => ?_, ?_, by have := h.fuel; exact o5 _ (.k 1 i9 (.num 300) .o) c8 (.num 300) tt this⟩
 ·obtain ⟨q, hq, rfl⟩ := List.mem_map.mp hr
  have := h.len q (al2 hg hq)
  show (q.1.drop _).length < f
  rw [List.length_drop]; exact bY1 hf this
 ·rw [List.length_map]; have := ar0 hg; have := h.num; exact bY0 ‹_› this
noncomputable def atG (gs : List (List Nat × List Rw)) (j : Nat) : Nat := ((gs.take j).flatMap (·.2)).length
theorem bh6 {gs : List (List Nat × List Rw)} {j : Nat} {g : List Nat × List Rw} (h : gs[j]? = some g) : atG gs (j + 1) = atG gs j + g.2.length := by
 obtain ⟨hj, rfl⟩ := List.getElem?_eq_some_iff.mp h
 unfold atG; rw [List.take_succ_eq_append_getElem hj, List.flatMap_append, List.length_append, List.flatMap_singleton]
theorem v0 : ∀ (f : Nat) (rs : List Rw), (e8 f rs).ok = true
 | 0, _ => rfl
 | _ + 1, [] => rfl
 | _ + 1, [_] => rfl
 | _ + 1, _ :: _ :: _ => rfl
theorem bn1 (rs : List Rw) {i : Nat} {r : Rw} (h : rs[i]? = some r) : (rs.map l9)[i]? = some (l9 r) := by rw [List.getElem?_map, h]; rfl
theorem H3 {α β : Type} (p : α → Bool) (F : α → β) (l : List α) : (l.filterMap fun x => if p x then some (F x) else none) = (l.filter p).map F := by
 induction l with
 | nil => rfl
 | cons x l ih => rw [List.filterMap_cons, List.filter_cons]; cases p x <;> simp [ih]
section
variable {G : Gl} {K : Sx} {ρ : List V} {σ : Ow} {Q : KS} {ss : List Stmt}
theorem bd7 {i j k : Nat} {ni nj nk : Str} {a b : List Nat} {c0 c1 : Nat} {p0 p1 p2 p3 p4 p5 p6 p7 p8 p9 q0 q1 q2 q3 q4 q5 q6 q7 q8 q9 r0 r1 r2 r3 r4 r5 r6 : Pos} (ha : a.length ≤ 1000) (hb : b.length ≤ 1000)
  (hi : ∀ v, (ρ.set k v)[i]? = some (.str a)) (hj : ∀ v, (ρ.set k v)[j]? = some (.str b)) (hk : ∀ v, (ρ.set k v)[k]? = some v) (h : WS G K ss (ρ.set k (.int (lcp a b))) σ Q)
  (xi : w0 K i ni = true := by decide +kernel) (xj : w0 K j nj = true := by decide +kernel) (xk : w0 K k nk = true := by decide +kernel) (hg : j8 K "len" = true := by decide +kernel) :
  WS G K (.Assign [.Name nk p0] (.Constant (.int 0) c0 p1) p2 :: .While (.BoolOp .And [.Compare (.Name nk p3) [.Lt] [.Call (.Name "len" p4) [.Name ni p5] [] p6] p7, .Compare (.Name nk p8) [.Lt] [.Call (.Name "len" p9) [.Name nj q0] [] q1] q2, .Compare (.Subscript (.Name ni q3) (.Name nk q4) q5) [.Eq] [.Subscript (.Name nj q6) (.Name nk q7) q8] q9] r0)
   [.Assign [.Name nk r1] (.BinOp (.Name nk r2) .Add (.Constant (.int 1) c1 r3) r4) r5] [] r6 :: ss) ρ σ Q := by
 refine i8 k c9 (ax9 (fun n ρ' σ' => ∃ l : Nat, ρ' = ρ.set k (.int l) ∧ l ≤ lcp a b ∧ n = a.length - l ∧ σ' = σ) a.length ⟨0, rfl, Nat.zero_le _, rfl, rfl⟩ ?_) xk
 rintro n ρ' σ' ⟨l, rfl, hl, rfl, rfl⟩
 have hs := aB3 a b l hl
 have vk : ∀ {p}, Ev G K (ρ.set k (.int l)) σ' (.Name nk p) (.int l) := a8 k (hk _) rfl xk
 have vi : ∀ {p}, Ev G K (ρ.set k (.int l)) σ' (.Name ni p) (.str a) := a8 i (hi _) rfl xi
 have vj : ∀ {p}, Ev G K (ρ.set k (.int l)) σ' (.Name nj p) (.str b) := a8 j (hj _) rfl xj
 refine ⟨_, v1 (y2 (d8 vk (B9 vi (by exact aE0 ha) rfl hg) as0) fun h1 => y2 (d8 vk (B9 vj (by exact aE0 hb) rfl hg) as0) fun h2 => x6 (d8 (av8 vi vk (n0 l) (of_decide_eq_true h1) (by exact aE0 ha)) (av8 vj vk (n0 l) (of_decide_eq_true h2) (by exact aE0 hb)) J9)), fun ht => ?_, fun hf => ?_⟩
 ·simp only [Bool.and_eq_true, decide_eq_true_eq, beq_iff_eq, List.cons.injEq, and_true, Int.toNat_natCast] at ht
  have hm := hs.mp ⟨by exact n8 _ _ (.k 1 i9 d5 .o) i9 d5 tt (Int.ofNat_lt.mp (And.left ht)), by exact n8 _ _ (.k 1 i9 d5 .o) i9 d5 tt (Int.ofNat_lt.mp (And.left (And.right ht))), ht.2.2⟩
  have := (au9 a b).1
  exact i8 k (H5 vk c9) (d6 ⟨a.length - (l + 1), by exact bX9 ht, l + 1, by rw [List.set_set]; rfl, hm, rfl, rfl⟩) xk
 ·have : l = lcp a b := by
   apply Classical.byContradiction
   intro hn
   have := hs.mpr (by exact Or.elim (ac9 hn) (fun u2 => (n8 _ _ (.k 1 i9 d5 .o) i9 d5 tt u2)) (fun u3 => (n8 _ _ (.k 2 c8 d5 (.k 1 y0 c8 .o)) i9 d5 tt hl u3)))
   refine Bool.false_ne_true (hf.symm.trans ?_)
   simp only [Bool.and_eq_true, decide_eq_true_eq, beq_iff_eq, List.cons.injEq, and_true, Int.toNat_natCast]
   exact ⟨by exact Int.ofNat_lt.mpr (n8 _ _ (.k 1 i9 d5 .o) i9 d5 tt (And.left this)), by exact Int.ofNat_lt.mpr (n8 _ _ (.k 1 i9 d5 .o) i9 d5 tt (And.left (And.right this))), this.2.2⟩
  rw [this]; exact h
theorem Q7 {e : PySem.Expr} {r : J6} {c : Nat} {p p' : Pos} (h : Ev G K ρ σ e (l9 r)) : Ev G K ρ σ (.Subscript e (.Constant (.int 0) c p) p') (.str r.1) := o6 h c9 (by decide) (by decide) rfl
theorem bq4 {e : PySem.Expr} {r : J6} {c : Nat} {p p' : Pos} (h : Ev G K ρ σ e (l9 r)) : Ev G K ρ σ (.Subscript e (.Constant (.int 1) c p) p') (.int r.2) := o6 h c9 (by decide) (by decide) rfl
end
section
variable {G : Gl}
theorem bg9 (FA : ab6 G) {a b : List Nat} (ha : a.length ≤ 1000) (hb : b.length ≤ 1000) (hd : 0 < G.d) : Pure G "common" [.str a, .str b] (.str (a.take (lcp a b))) := by
 refine l7 FA rfl hd (bd7 (i := 0) (j := 1) (k := 2) ha hb (fun _ => rfl) (fun _ => rfl) (fun _ => rfl) (g8 (E9 (a8 0 rfl) z9 (w7 (a8 2 rfl)) (by rw [C5]; exact aE1 ha)) ?_))
 rw [B7]; exact Res.id _
end
section
variable {G : Gl}
theorem aJ9 (FA : ax4 G) {a b : List Nat} (ha : a.length ≤ 1000) (hb : b.length ≤ 1000) (hd : 0 < G.d) : Pure G "rest" [.str a, .str b] (if b.isPrefixOf a then .str (a.drop b.length) else .none) := by
 refine l7 FA rfl hd (f8 (z8 (aT6 (a8 0 rfl) (a8 1 rfl))) (fun h => ?_) (fun h => ?_))
 ·refine g8 (E9 (a8 0 rfl) (w7 (B9 (a8 1 rfl) (by exact aE0 hb))) z9 (by rw [C5]; exact aE1 ha)) ?_
  rw [P8, if_pos h]; exact Res.id _
 ·refine d6 (g8 o9 ?_)
  rw [h]; exact Res.id _
end
section
variable {G : Gl}
noncomputable def bc0 (t : List Nat) (r : Rw) : V := l9 (t ++ r.1, r.2)
theorem V2 (a : Addr) (xs : List V) : σ1 a xs a = some (.lst xs) := Ow.set_self ..
theorem set_set (σ : Ow) (a : Addr) (xs ys : List V) : (σ.set a xs).set a ys = σ.set a ys := funext fun c => by
 unfold Ow.set Ow.put
 split <;> rfl
theorem bg6 : ∀ (f : Nat) {G : Gl} {rs : List Rw} {t : List Nat} {p : Addr} {acc : List V}, V0 G → Good f rs → t.length + 301 * f ≤ 200000 → acc.length + rs.length ≤ 10000 → f + 1 ≤ G.d →
  bu0 G "gather" [e8 f rs, .str t, .ref p] p acc (acc ++ rs.map (bc0 t)) := by
 intro f
 have nil : ∀ {G : Gl} {t : List Nat} {p : Addr} {acc : List V}, V0 G → 0 < G.d → bu0 G "gather" [.none, .str t, .ref p] p acc (acc ++ [].map (bc0 t)) := fun FA hd => by
  refine au2 FA rfl hd (f8 (d8 (a8 0 rfl) o9 C9) (fun _ => aL5 ?_) nF)
  rw [List.map_nil, List.append_nil]; exact V2 ..
 induction f with
 | zero =>
  intro G rs t p acc FA hg ht hl hd
  cases hg.zero
  exact nil FA (by first | exact Nat.le_trans (by decide) hd | exact Nat.le_trans (by decide) hG)
 | succ f ih =>
  intro G rs t p acc FA hg ht hl hd
  match rs, hg, hl with
  | [], hg, hl => exact nil FA (by exact aD9 hd)
  | [r], hg, hl =>
   have hr := hg.len r (by simp)
   have hl' : acc.length + 1 ≤ 10000 := hl
   refine au2 FA rfl (by exact aD9 hd) (f8 (d8 (a8 0 rfl) o9 (B4 rfl)) nT fun _ => d6 (f8 (d8 (o6 (a8 0 rfl) c9 (by decide) (by decide) rfl) (i0 (lit "leaf")) J9) (fun _ => ?_) fun h => absurd h (by rw [beq_self_eq_true]; decide)))
   exact B0 (a8 2 rfl) (V2 ..) (n6 (b8 (E7 (a8 1 rfl) (o6 (a8 0 rfl) c9 (by decide) (by decide) rfl) (by rw [C5]; exact z3 _ _ _ (.k 1 (.add c8 (.mulL 301 y0)) (.num 200000) (.k 1 D9 y0 .o)) (.add c8 e9) (.num 16777216) tt ht hr)) (b8 (o6 (a8 0 rfl) c9 (by decide) (by decide) rfl) b9)) sz2) (by rw [C5]; exact o5 _ (.k 1 i9 (.num 10000) .o) c8 (.num 16777216) tt hl') (aL5 (Ow.set_self ..))
  | a :: b :: rs, hg, hl =>
   have h2 : 2 ≤ (a :: b :: rs).length := by simp
   generalize hrs : a :: b :: rs = rs' at *
   have ha : a ∈ rs' := by rw [← hrs]; simp
   have hal := hg.len a ha
   have htv : e8 (f + 1) rs' = .tup [.str (lit "fork"), .str (a.1.take (r9 rs')), .tup ((s5 (r9 rs') rs').map fun g => .tup [.str g.1, e8 f (g.2.map (K4 (r9 rs')))])] := by rw [← hrs]; rfl
   rw [htv]
   have P := at0 hg.srt
   have hfu := hg.fuel
   refine au2 FA rfl (by exact aD9 hd) (f8 (d8 (a8 0 rfl) o9 (B4 rfl)) nT fun _ => d6 (f8 (d8 (o6 (a8 0 rfl) c9 (by decide) (by decide) rfl) (i0 (lit "leaf")) J9) (fun h => absurd h (by decide +kernel)) fun _ => d6 ?_))
   refine D6 (fun i ρ σ => σ = σ1 p (acc ++ (((s5 (r9 rs') rs').take i).flatMap (·.2)).map (bc0 t)) ∧ ∃ v w, ρ = [.tup [.str (lit "fork"), .str (a.1.take (r9 rs')), .tup ((s5 (r9 rs') rs').map fun g => .tup [.str g.1, e8 f (g.2.map (K4 (r9 rs')))])], .str t, .ref p, v, w])
    (o6 (a8 0 rfl) c9 (by decide) (by decide) rfl) rfl ⟨?_, .unb, .unb, rfl⟩ ?_ ?_
   ·rw [List.take_zero]; simp
   ·rintro i ρ σ x hx ⟨rfl, v, w, rfl⟩
    rw [List.getElem?_map] at hx
    obtain ⟨g, hgi, rfl⟩ := Option.map_eq_some_iff.mp hx
    have hgm := List.mem_of_getElem? hgi
    have hm := I4 _ _ g hgm
    have hgl : g.1.length ≤ 1 := by
     obtain ⟨x, xs, hx⟩ := List.exists_cons_of_ne_nil hm.1
     rw [← hm.2 x (by rw [hx]; simp)]; unfold sg; rw [List.length_take]; exact bQ4
    have e := bh6 hgi
    have e2 : atG (s5 (r9 rs') rs') (i + 1) ≤ rs'.length := by
     conv => rhs; rw [← E2 (r9 rs') rs', ← List.take_append_drop (i + 1) (s5 (r9 rs') rs'), List.flatMap_append, List.length_append]
     exact Nat.le_add_right _ _
    unfold atG at e e2
    have htl : (a.1.take (r9 rs')).length ≤ 1000 := by rw [List.length_take]; exact bQ3 hfu hal
    refine ⟨_, D4 3 4, aL7 (ih (G := G.dn) (t := t ++ a.1.take (r9 rs') ++ g.1) FA (hg.group h2 hgm) ?_ ?_ (by first | exact dl hd | exact dl0 hd | (show f + 1 ≤ G.d - 1; first | (exact bD3 hd) | (first | lia | omega)))) (b8 (a8 4 rfl (v0 _ _)) (b8 (E7 (E7 (a8 1 rfl) (o6 (a8 0 rfl) c9 (by decide) (by decide) rfl) ?_) (a8 3 rfl) ?_) (b8 (a8 2 rfl) b9))) (V2 ..) (d6 ⟨?_, _, _, rfl⟩)⟩
    ·have := hal; rw [List.length_append, List.length_append, List.length_take]; exact bQ2 ht hfu hal hgl
    ·rw [List.length_append, List.length_map, List.length_map]; exact l'5 _ _ _ _ _ (.k 1 (.add c8 d5) (.num 10000) (.k 1 (.add e9 o7) A9 (.k 1 A9 d5 .o))) (.add (.add c8 e9) o7) (.num 10000) tt hl (Nat.le_of_eq (Eq.symm e)) e2
    ·rw [C5]; exact z3 _ _ _ (.k 1 (.add c8 (.mulL 301 y0)) (.num 200000) (.k 1 e9 (.num 1000) .o)) (.add c8 e9) (.num 16777216) tt ht htl
    ·rw [C5, List.length_append]; exact I0 _ _ _ _ (.k 1 (.add c8 (.mulL 301 y0)) (.num 200000) (.k 1 e9 (.num 1000) (.k 1 o7 k9 .o))) (.add (.add c8 e9) o7) (.num 16777216) tt ht htl hgl
    ·unfold σ1
     rw [set_set]
     obtain ⟨hi, e⟩ := List.getElem?_eq_some_iff.mp hgi
     rw [List.take_succ_eq_append_getElem hi, List.flatMap_append, List.flatMap_singleton, List.map_append, List.append_assoc, e, List.map_map]
     congr 3
     refine List.map_congr_left fun r hr => ?_
     have hra : r.1.take (r9 rs') = a.1.take (r9 rs') := P.pre r (al2 hgm hr) a ha
     have := aA4 (r9 rs') r.1
     have hsg := hm.2 r hr
     unfold sg at hsg
     rw [hsg, hra] at this
     show l9 _ = l9 _
     unfold K4
     congr 2
     simp only [List.append_assoc, this]
   ·rintro ρ σ ⟨rfl, v, w, rfl⟩
    refine d6 ?_
    rw [List.length_map, List.take_length, E2]
    exact V2 ..
theorem R3 (FA : V0 G) (FN : ax5 G) {f : Nat} {rs : List Rw} (hg : Good f rs) (hd : f + 2 ≤ G.d) : Pure G "names" [e8 f rs] (.lst (rs.map l9)) := by
 have hfu := hg.fuel
 have hn := hg.num
 exact l7 FN rfl (by exact n8 _ _ (.k 1 (.add c8 I7) d5 .o) (.add w9 k9) d5 tt hd) (X3 1 fun a _ => aL7 (bg6 f (G := G.dn) (t := []) FA hg (by show 0 + _ ≤ _; exact Nat.le_of_not_lt fun u1 => (f'1 _ (.k 301 c8 (.num 300) (.k 1 (.add (.num 200000) k9) (.add w9 (.mulL 301 c8)) .o)) tt hfu u1)) (by show 0 + _ ≤ _; exact o5 _ (.k 1 c8 (.num 1000) .o) (.add w9 c8) (.num 10000) tt hn) (by first | exact dl hd | exact dl0 hd | (show f + 1 ≤ G.d - 1; first | (exact bQ5 hd) | (first | lia | omega)))) (b8 (a8 0 rfl (v0 _ _)) (b8 (i0 []) (b8 (a8 1 rfl) b9))) (Ow.set_self ..) (g8 (a8 1 rfl) (.frz (Ow.set_self ..))))
noncomputable def brV (f k : Nat) (g : List Nat × List Rw) : V := .tup [.str g.1, e8 f (g.2.map (K4 k))]
theorem bw0 : 1 < 2 ^ 62 := by decide
end
structure GOk (k : Nat) (ga : Addr) (bs : List ((List Nat × List Rw) × Addr)) (σ : Ow) : Prop where
 own : σ ga = some (.lst (bs.map fun x => .tup [.str x.1.1, .ref x.2]))
 cells : ∀ x ∈ bs, σ x.2 = some (.lst ((x.1.2.map (K4 k)).map l9)) ∧ x.2 ≠ ga
 apart : bs.Pairwise fun x y => x.2 ≠ y.2
section
variable {k : Nat} {ga : Addr} {bs : List ((List Nat × List Rw) × Addr)} {σ : Ow}
theorem GOk.new {b : Addr} {s : List Nat} (D : GOk k ga bs σ) (hb : σ b = none) (hne : b ≠ ga) : GOk k ga (bs ++ [((s, []), b)]) ((σ.set b []).set ga ((bs.map fun x => .tup [.str x.1.1, .ref x.2]) ++ [.tup [.str s, .ref b]])) := by
 have nb : ∀ x ∈ bs, x.2 ≠ b := fun x hx e => by have := (D.cells x hx).1; rw [e, hb] at this; cases this
 refine ⟨by rw [Ow.set_self, List.map_append]; rfl, fun x hx => ?_, ?_⟩
 ·rcases List.mem_append.mp hx with h | h
  ·exact ⟨by rw [Ow.set_ne _ _ (D.cells x h).2, Ow.set_ne _ _ (nb x h)]; exact (D.cells x h).1, (D.cells x h).2⟩
  ·cases List.mem_singleton.mp h; exact ⟨by rw [Ow.set_ne _ _ hne, Ow.set_self]; rfl, hne⟩
 ·rw [List.pairwise_append]
  exact ⟨D.apart, List.pairwise_singleton .., fun x hx y hy => by cases List.mem_singleton.mp hy; exact nb x hx⟩
theorem GOk.put {s : List Nat} {g : List Rw} {b : Addr} {r : Rw} (D : GOk k ga (bs ++ [((s, g), b)]) σ) : GOk k ga (bs ++ [((s, g ++ [r]), b)]) (σ.set b ((g.map (K4 k)).map l9 ++ [l9 (K4 k r)])) := by
 have hb := D.cells ((s, g), b) (by simp)
 have ap := List.pairwise_append.mp D.apart
 refine ⟨by rw [Ow.set_ne _ _ hb.2.symm, D.own, List.map_append, List.map_append]; rfl, fun x hx => ?_, ?_⟩
 ·rcases List.mem_append.mp hx with h | h
  ·have hx := D.cells x (by simp [h])
   exact ⟨by rw [Ow.set_ne _ _ (ap.2.2 x h _ (List.mem_singleton.mpr rfl))]; exact hx.1, hx.2⟩
  ·cases List.mem_singleton.mp h; exact ⟨by rw [Ow.set_self, List.map_append, List.map_append]; rfl, hb.2⟩
 ·rw [List.pairwise_append]
  exact ⟨ap.1, List.pairwise_singleton .., fun x hx y hy => by cases List.mem_singleton.mp hy; exact ap.2.2 x hx ((s, g), b) (List.mem_singleton.mpr rfl)⟩
theorem GOk.res (D : GOk k ga bs σ) : Res σ (.ref ga) (.lst ((bs.map (·.1)).map fun g => .tup [.str g.1, .lst ((g.2.map (K4 k)).map l9)])) := by
 refine .own D.own ?_
 have h := D.cells
 clear D
 induction bs with
 | nil => exact .nil
 | cons x bs ih => exact .cons (.tup (.cons (.id _) (.cons (.frz (h x (by simp)).1) .nil))) (ih fun y hy => h y (by simp [hy]))
end
noncomputable def bA6 (k : Nat) (g : List Nat × List Rw) : V := .tup [.str g.1, .lst ((g.2.map (K4 k)).map l9)]
section
variable {G : Gl}
theorem be4 {K : Sx} {ρ : List V} {σ : Ow} {Q : KS} {ss : List Stmt} {k : Nat} {ga : Addr} {bs : List ((List Nat × List Rw) × Addr)} {s : List Nat} {g : List Rw} {b : Addr} {r : Rw} {i j l m : Nat} {ng nn ns nu : Str} {c c' c'' m' : Nat} {p0 p1 p2 p3 p4 p5 p6 p7 p8 p9 q0 q1 q2 q3 q4 q5 ap : Pos}
  (D : GOk k ga (bs ++ [((s, g), b)]) σ) (hg : g.length ≤ 10000) (hr : r.1.length ≤ 1000) (hi : ρ[i]? = some (.ref ga)) (hj : ρ[j]? = some (.str r.1)) (hl : ρ[l]? = some (.int k)) (hm : ρ[m]? = some (.int r.2)) (h : WS G K ss ρ (σ.set b ((g.map (K4 k)).map l9 ++ [l9 (K4 k r)])) Q)
  (xi : w0 K i ng = true := by decide +kernel) (xj : w0 K j nn = true := by decide +kernel) (xl : w0 K l ns = true := by decide +kernel) (xm : w0 K m nu = true := by decide +kernel) (hp : (ap.endLine == q4.line) = true := by rfl) :
  WS G K (.Expr (.Call (.Attribute (.Subscript (.Subscript (.Name ng p0) (.UnaryOp .USub (.Constant (.int 1) c p1) p2) p3) (.Constant (.int 1) c' p4) p5) "append" ap) [.Tuple [.Subscript (.Name nn p6) (.Slice (some (.BinOp (.Name ns p7) .Add (.Constant (.int 1) c'' p8) p9)) none none q0) q1, .Name nu q2] m' q3] [] q4) q5 :: ss) ρ σ Q := by
 refine B0 (a := b) (o6 (xs := [.str s, .ref b]) (aa4 (a8 i hi rfl xi) (av5 c9) D.own (by rw [List.map_append]; exact List.getLast?_concat ..)) c9 (by decide) (by decide) rfl) (D.cells ((s, g), b) (by simp)).1
  (n6 (b8 (E9 (a8 j hj rfl xj) (w7 (H5 (a8 l hl rfl xl) c9)) z9 (by rw [C5]; exact aE1 hr)) (b8 (a8 m hm rfl xm) b9)) sz2) (by rw [List.length_map, List.length_map, C5]; exact Nat.le_trans hg (by decide)) ?_ (by intros; rfl) hp
 rw [az1]; exact h
theorem aU4 (FA : W2 G) {rs : List Rw} {k : Nat} (hk : k ≤ 10000) (hl : ∀ r ∈ rs, r.1.length ≤ 1000) (hn : rs.length ≤ 10000) (hd : 0 < G.d) : Pure G "grouped" [.lst (rs.map l9), .int k] (.lst ((s5 k rs).map (bA6 k))) := by
 refine l7 FA rfl hd (X3 2 fun ga _ => ?_)
 refine D6 (fun i ρ σ => ∃ bs, GOk k ga bs σ ∧ bs.map (·.1) = s5 k (rs.take i) ∧ ∃ u v w, ρ = [.lst (rs.map l9), .int k, .ref ga, u, v, w]) (a8 0 rfl) rfl ⟨[], ⟨Ow.set_self .., nofun, .nil⟩, rfl, .unb, .unb, .unb, rfl⟩ ?_ ?_
 ·rintro i ρ σ x hx ⟨bs, D, hmap, u, v, w, rfl⟩
  rw [List.getElem?_map] at hx
  obtain ⟨r, hr, rfl⟩ := Option.map_eq_some_iff.mp hx
  obtain ⟨hi, e⟩ := List.getElem?_eq_some_iff.mp hr
  have htk : rs.take (i + 1) = rs.take i ++ [r] := by rw [List.take_succ_eq_append_getElem hi, e]
  have hrl := hl r (List.mem_of_getElem? hr)
  have hbl : bs.length ≤ 10000 := by
   have := congrArg List.length hmap
   rw [List.length_map] at this
   have := al7 k (rs.take i)
   rw [List.length_take] at this; exact bO6 ‹_› hn this
  have hgl : ∀ s g b, ((s, g), b) ∈ bs → g.length ≤ 10000 := fun s g b h => by
   have : (s, g) ∈ s5 k (rs.take i) := by rw [← hmap]; exact List.mem_map_of_mem (f := (·.1)) h
   have h3 : g.length ≤ (rs.take i).length := ar0 this
   rw [List.length_take] at h3; exact bO5 h3 hn
  have hlast : ∀ {bs : List ((List Nat × List Rw) × Addr)} {x : (List Nat × List Rw) × Addr}, ((bs ++ [x]).map fun x => V.tup [.str x.1.1, .ref x.2]).getLast? = some (.tup [.str x.1.1, .ref x.2]) := fun {bs x} => by rw [List.map_append]; exact List.getLast?_concat ..
  refine ⟨_, D4 3 4, i8 5 (E9 (a8 3 rfl) (w7 (a8 1 rfl)) (w7 (H5 (a8 1 rfl) c9)) (by rw [C5]; exact aE1 hrl)) ?_⟩
  rw [aR1]
  rcases G5 bs with rfl | ⟨bs', ⟨⟨s, g⟩, b⟩, rfl⟩
  ·refine f8 (v1 (I1 (b := true) (d8 (av7 (a8 2 rfl) D.own (by decide)) c9 m7) nofun (c := true))) (fun _ => W4 (a8 2 rfl) D.own (a8 5 rfl) sz0 fun b hb hne => d6 ?_) nF
   exact be4 (i := 2) (j := 3) (l := 1) (m := 4) (D.new hb hne) (by decide) (by exact hrl) rfl rfl rfl rfl (d6 ⟨_, (D.new hb hne).put, by rw [htk, G7, ← hmap]; rfl, _, _, _, rfl⟩)
  ·have hg1 := hgl s g b (by simp)
   have hb1 : (bs' ++ [((s, g), b)]).length = bs'.length + 1 := by rw [List.length_append]; rfl
   refine f8 (v1 (I1 (d8 (av7 (a8 2 rfl) D.own (by rw [List.length_map]; exact o5 _ (.k 1 c8 (.num 10000) .o) i9 (.num 4611686018427387904) tt hbl)) c9 m7) fun _ => x6 (d8 (o6 (aa4 (a8 2 rfl) (av5 c9) D.own hlast) c9 (by decide) (by decide) rfl) (a8 5 rfl) R1))) (fun h => W4 (a8 2 rfl) D.own (a8 5 rfl) (by rw [List.length_map, C5]; exact aw3 hbl) fun b₂ hb hne => d6 ?_) (fun h => d6 ?_)
   ·have e : s ≠ sg k r := by
     rintro rfl
     rw [List.length_map, hb1] at h
     simp [sg] at h
     (exact f'1 _ (.k 1 i9 w9 .o) tt (Nat.le_of_eq (Int.ofNat_inj.mp h)))
    exact be4 (i := 2) (j := 3) (l := 1) (m := 4) (D.new hb hne) (by decide) (by exact hrl) rfl rfl rfl rfl (d6 ⟨_, (D.new hb hne).put, by rw [htk, G7, ← hmap, List.map_append, List.map_append]; exact (ab2 k _ s g r e).symm, _, _, _, rfl⟩)
   ·have e : s = sg k r := by
     have := (Bool.or_eq_false_iff.mp h).2
     have : s = (r.1.drop k).take 1 := by simpa using this
     exact this
    exact be4 (i := 2) (j := 3) (l := 1) (m := 4) D hg1 (by exact hrl) rfl rfl rfl rfl (d6 ⟨_, D.put, by rw [htk, G7, ← hmap, List.map_append, List.map_append]; exact (W1 k _ s g r e).symm, _, _, _, rfl⟩)
 ·rintro ρ σ ⟨bs, D, hmap, u, v, w, rfl⟩
  rw [List.length_map, List.take_length] at hmap
  refine g8 (a8 2 rfl) ?_
  have := D.res
  rw [hmap] at this
  exact this
theorem ah9 : ∀ (f : Nat) {G : Gl} {rs : List Rw}, ab6 G → W2 G → ai0 G → Good f rs → f + 2 ≤ G.d → Pure G "built" [.lst (rs.map l9)] (e8 f rs) := by
 intro f
 have nil : ∀ (f : Nat) {G : Gl}, ai0 G → 0 < G.d → Pure G "built" [.lst []] (e8 f []) := fun f G FA hd => by
  rw [I2]
  exact l7 FA rfl hd (f8 (d8 (A6 (a8 0 rfl) (by decide)) c9 m7) (fun _ => g8 o9 (.id _)) nF)
 induction f with
 | zero => intro G rs FC FG FA hg hd; cases hg.zero; exact nil 0 FA (by first | exact Nat.le_trans (by decide) hd | exact Nat.le_trans (by decide) hG)
 | succ f ih =>
  intro G rs FC FG FA hg hd
  match rs, hg with
  | [], hg => exact nil _ FA (by exact bD0 hd)
  | [r], hg =>
   have hr := hg.len r (by simp)
   refine l7 FA rfl (by exact bD0 hd) (f8 (d8 (A6 (a8 0 rfl) bw0) c9 m7) nT fun _ => d6 (f8 (d8 (A6 (a8 0 rfl) bw0) c9 m7) (fun _ => ?_) nF))
   exact g8 (n6 (b8 (i0 (lit "leaf")) (b8 (Q7 (r := r) (B2 (a8 0 rfl) c9 (by decide) (by decide) rfl)) (b8 (bq4 (r := r) (B2 (a8 0 rfl) c9 (by decide) (by decide) rfl)) b9))) sz3) (.id _)
  | a0 :: b0 :: rs, hg =>
   have h2 : 2 ≤ (a0 :: b0 :: rs).length := by simp
   obtain ⟨z0, hz0⟩ : ∃ z, (a0 :: b0 :: rs).getLast? = some z := ⟨_, List.getLast?_eq_some_getLast (by simp)⟩
   have hk : r9 (a0 :: b0 :: rs) = lcp a0.1 z0.1 := ac6 hz0
   have h0r : (a0 :: b0 :: rs)[0]? = some a0 := rfl
   have htv : e8 (f + 1) (a0 :: b0 :: rs) = .tup [.str (lit "fork"), .str (a0.1.take (r9 (a0 :: b0 :: rs))), .tup ((s5 (r9 (a0 :: b0 :: rs)) (a0 :: b0 :: rs)).map (brV f (r9 (a0 :: b0 :: rs))))] := rfl
   generalize a0 :: b0 :: rs = rs' at *
   rw [htv]
   have hal := hg.len a0 (List.mem_of_getElem? h0r)
   have hz0m : z0 ∈ rs' := by rw [List.getLast?_eq_getElem?] at hz0; exact List.mem_of_getElem? hz0
   have hzl := hg.len z0 hz0m
   have hfu := hg.fuel
   have hn := hg.num
   have hlen : (rs'.map l9).length = rs'.length := List.length_map ..
   have hgg : ∀ g ∈ s5 (r9 rs') rs', Good f (g.2.map (K4 (r9 rs'))) := fun g h => hg.group h2 h
   have hgl := al7 (r9 rs') rs'
   generalize hkk : r9 rs' = k at *
   have hkle := au9 a0.1 z0.1
   have h62 : (rs'.map l9).length < 2 ^ 62 := by rw [hlen]; exact aE0 hn
   have hkl : (a0.1.take k).length = k := by rw [List.length_take]; exact bO4 hkle hk
   refine l7 FA rfl (by exact bD0 hd) (f8 (d8 (A6 (a8 0 rfl) h62) c9 m7) (fun h => ?_) fun _ => d6 (f8 (d8 (A6 (a8 0 rfl) h62) c9 m7) (fun h => ?_) fun _ => d6 ?_))
   ·have h := eq_of_beq h; exact (bO3 ‹_› h2 hlen).elim
   ·have h := eq_of_beq h; exact (bO2 ‹_› h2 hlen).elim
   refine i8 1 (d7 (bg9 (G := G.dn) (a := a0.1) (b := z0.1) FC (by exact bC9 hfu hal) (by exact bC9 hfu hzl) (by first | exact dl hd | exact dl0 hd | (show 0 < G.d - 1; first | (exact bI9 hd) | (first | lia | omega)))) (b8 (Q7 (B2 (a8 0 rfl) c9 (by decide) (by decide) (bn1 _ h0r))) (b8 (Q7 (av9 (a8 0 rfl) (av5 c9) h62 (by rw [List.getLast?_map, hz0]; rfl))) b9))) ?_
   rw [← hk]
   refine X3 2 fun c _ => ?_
   refine D6 (fun i ρ σ => σ = σ1 c (((s5 k rs').take i).map (brV f k)) ∧ ∃ u v, ρ = [.lst (rs'.map l9), .str (a0.1.take k), .ref c, u, v]) (d7 (aU4 (G := G.dn) (k := k) FG (by exact I0 _ _ _ _ (.k 1 i9 (.num 300) (.k 1 d5 e9 (.k 1 o7 d5 (.k 1 D9 i9 .o)))) o7 (.num 10000) tt hfu (And.right hkle) (Nat.le_of_eq hk) hzl) (fun r hr => by have := hg.len r hr; exact bC9 hfu this) (by exact bt6 hn) (by first | exact dl hd | exact dl0 hd | (show 0 < G.d - 1; first | (exact bI9 hd) | (first | lia | omega)))) (b8 (a8 0 rfl) (b8 ((B9 (a := a0.1.take k) (a8 1 rfl) (by exact l'5 _ _ _ _ _ (.k 1 i9 (.num 300) (.k 1 d5 e9 (.k 1 o7 A9 (.k 1 D9 i9 (.k 1 A9 d5 .o))))) I9 (.num 4611686018427387904) tt hfu (And.right hkle) (Nat.le_of_eq hkl) hzl (Nat.le_of_eq hk))).to (by rw [hkl])) b9))) rfl ⟨rfl, .unb, .unb, rfl⟩ ?_ ?_
   ·rintro i ρ σ x hx ⟨rfl, u, v, rfl⟩
    rw [List.getElem?_map] at hx
    obtain ⟨g, hgi, rfl⟩ := Option.map_eq_some_iff.mp hx
    have hgm := List.mem_of_getElem? hgi
    refine ⟨_, D4 3 4, B0 (a8 2 rfl) (V2 ..) (n6 (b8 (a8 3 rfl) (b8 (d7 (ih (G := G.dn) FC FG FA (hgg g hgm) (by first | exact dl hd | exact dl0 hd | (show f + 2 ≤ G.d - 1; first | (exact bO1 hd) | (first | lia | omega)))) (b8 (a8 4 rfl) b9)) b9)) sz2) (by rw [List.length_map, List.length_take, C5]; exact bO0 hgl hn) (d6 ⟨?_, _, _, rfl⟩)⟩
    unfold σ1
    rw [set_set]
    obtain ⟨hi, e⟩ := List.getElem?_eq_some_iff.mp hgi
    rw [List.take_succ_eq_append_getElem hi, e, List.map_append]; rfl
   ·rintro ρ σ ⟨rfl, u, v, rfl⟩
    rw [List.length_map, List.take_length]
    exact g8 (n6 (b8 (i0 (lit "fork")) (b8 (a8 1 rfl) (b8 (bf1 (a8 2 rfl) (V2 ..) (by rw [List.length_map, C5]; exact n8 _ _ (.k 1 c8 d5 (.k 1 d5 (.num 1000) .o)) c8 (.num 16777216) tt hgl hn)) b9))) sz3) (.id _)
end
structure Rows (rs : List Rw) : Prop where
 srt : Srt rs
 len : ∀ r ∈ rs, r.1.length ≤ 40
 num : rs.length ≤ 150
theorem Rows.good {rs : List Rw} (h : Rows rs) {f : Nat} (hf : 41 ≤ f) (hf' : f ≤ 300) : Good f rs := ⟨h.srt, fun r hr => by have := h.len r hr; exact n8 _ _ (.k 1 (.num 41) c8 (.k 1 d5 (.num 40) .o)) y0 c8 tt hf this, by have := h.num; exact o5 _ (.k 1 c8 (.num 150) .o) c8 (.num 1000) tt this, hf'⟩
noncomputable def leR (a b : Rw) : Bool := !decide (b.1 < a.1)
noncomputable def y4 (rs : List Rw) : List Rw := rs.mergeSort leR
theorem m8 (rs : List Rw) : (y4 rs).Perm rs := List.mergeSort_perm ..
theorem E4 {rs : List Rw} (d : Dst rs) : Srt (y4 rs) := by
 refine ba7 (d.perm (m8 rs).symm) ((List.pairwise_mergeSort (le := leR) (fun a b c h1 h2 => ?_) (fun a b => ?_) rs).imp fun {a b} h => ?_)
 ·have h1 : ¬ b.1 < a.1 := by simpa [leR] using h1
  have h2 : ¬ c.1 < b.1 := by simpa [leR] using h2
  have : ¬ c.1 < a.1 := fun h => (au7 a.1 b.1).elim (fun q => h2 (List.lt_trans h q)) fun q => q.elim (fun q => h2 (q ▸ h)) h1
  simpa [leR] using this
 ·rcases au7 a.1 b.1 with q | q | q
  ·simp [leR, List.lt_asymm q]
  ·simp [leR, q, List.lt_irrefl]
  ·simp [leR, List.lt_asymm q]
 ·simpa [leR] using h
theorem aj4 {rs : List Rw} (d : Dst rs) (hl : ∀ r ∈ rs, r.1.length ≤ 40) (hn : rs.length ≤ 150) : Rows (y4 rs) := ⟨E4 d, fun r hr => hl r ((m8 rs).mem_iff.mp hr), by rw [(m8 rs).length_eq]; exact hn⟩
theorem bo0 (c m : Int) (hm : 0 < m) : ∃ n : Nat, c % m = n ∧ (n : Int) < m := ⟨(c % m).toNat, (Int.toNat_of_nonneg (E8 c hm)).symm, by rw [Int.toNat_of_nonneg (E8 c hm)]; exact Int.emod_lt_of_pos c hm⟩
section
variable {G : Gl}
theorem bc8 {rs rs' : List J6} (p : rs'.Perm rs) (s : rs'.Pairwise fun a b => C8 b a = false) (d : Dst rs) : Srt rs' :=
 ba7 (d.perm p.symm) (s.imp fun {a b} h q => by unfold C8 at h; rw [decide_eq_false_iff_not] at h; exact h q)
theorem aU1 (FA : ae1 G) {r : Rw} (hd : 0 < G.d) : Pure G "name_of" [l9 r] (.str r.1) := l7 FA rfl hd (g8 (Q7 (r := r) (a8 0 rfl)) (.id _))
theorem Y0 (FC : ab6 G) (FG : W2 G) (FB : ai0 G) (FO : ae1 G) (FA : an8 G) {f : Nat} {rs : List Rw} (d : Dst rs) (hg : Good f (y4 rs)) (hd : f + 3 ≤ G.d) : Pure G "built_of" [.lst (rs.map l9)] (e8 f (y4 rs)) := by
 have hn := hg.num
 rw [(m8 rs).length_eq] at hn
 exact l7 FA rfl (by exact n8 _ _ (.k 1 (.add c8 R4) d5 .o) (.add w9 k9) d5 tt hd) (g8 (d7 (ah9 f (G := G.dn) FC FG FB hg (by first | exact dl hd | exact dl0 hd | (show f + 2 ≤ G.d - 1; first | (exact bX8 hd) | (first | lia | omega)))) (b8 (aJ3 (G := G.dn) (z := .lst ((y4 rs).map l9)) (FO.obj.imp fun _ q => q.imp fun _ q => ⟨q.1, q.2.1, q.2.2.1⟩) (fun r _ => aU1 (G := G.dn.dn) FO (by show 0 < G.d - 1 - 1; exact bX7 hd)) (by first | exact dl hd | exact dl0 hd | (show 0 < G.d - 1; first | (exact bX6 hd) | (first | lia | omega))) (a8 0 rfl) (by exact bt6 hn) fun rs' hp hs => by rw [P7 (E4 d) (bc8 hp hs d) ((m8 rs).trans hp.symm)]) b9)) (.id _))
end
noncomputable def s6 (n : List Nat) (rs : List Rw) : V := match rs.find? (fun r => r.1 == n) with | some r => .int r.2 | none => .none
theorem aQ8 {α : Type} {l : List α} {i : Nat} {r : α} (h : l[i]? = some r) : l.take (i + 1) = l.take i ++ [r] := by
 obtain ⟨hi, e⟩ := List.getElem?_eq_some_iff.mp h
 rw [List.take_succ_eq_append_getElem hi, e]
theorem bf8 {k : Nat} {a n : List Nat} (h : a.take k = n.take k) : (a == n) = (decide ((a.drop k).take 1 = (n.drop k).take 1) && (a.drop (k + 1) == n.drop (k + 1))) := by
 rw [Bool.eq_iff_iff, Bool.and_eq_true, beq_iff_eq, beq_iff_eq, decide_eq_true_eq]
 constructor
 ·rintro rfl; exact ⟨rfl, rfl⟩
 ·rintro ⟨h1, h2⟩; rw [← aA4 k a, ← aA4 k n, h, h1, h2]
theorem af1 {k : Nat} {n : List Nat} : ∀ {rs : List Rw}, (∀ r ∈ rs, r.1.take k = n.take k) → s6 n rs = s6 (n.drop (k + 1)) ((rs.filter fun r => decide (sg k r = (n.drop k).take 1)).map (K4 k))
 | [], _ => rfl
 | r :: rs, h => by
  have ih := af1 (k := k) (n := n) (rs := rs) fun q hq => h q (by simp [hq])
  have e := bf8 (h r (by simp))
  have es : sg k r = (r.1.drop k).take 1 := rfl
  unfold s6 at ih ⊢
  rw [List.find?_cons, List.filter_cons]
  by_cases q : sg k r = (n.drop k).take 1
  ·rw [if_pos (decide_eq_true q), List.map_cons, List.find?_cons]
   rw [← es, decide_eq_true q, Bool.true_and] at e
   rw [e]
   show (match (match (r.1.drop (k + 1) == n.drop (k + 1)) with | true => some r | false => _) with | some r => _ | none => _) = (match (match (r.1.drop (k + 1) == n.drop (k + 1)) with | true => some (K4 k r) | false => _) with | some r => _ | none => _)
   cases (r.1.drop (k + 1) == n.drop (k + 1)) with
   | true => rfl
   | false => exact ih
  ·rw [if_neg (by simpa using q)]
   rw [← es, decide_eq_false q, Bool.false_and] at e
   rw [e]; exact ih
theorem af2 {n : List Nat} {rs : List Rw} (h : ∀ r ∈ rs, r.1 ≠ n) : s6 n rs = .none := by
 unfold s6
 rw [List.find?_eq_none.mpr fun r hr => by simpa using h r hr]
noncomputable def W7 (s : List Nat) (gs : List (List Nat × List Rw)) : List Rw := match gs.find? (fun g => g.1 == s) with | some g => g.2 | none => []
theorem bb9 {k : Nat} {rs : List Rw} (P : Pre k rs) (s : List Nat) : W7 s (s5 k rs) = rs.filter fun r => decide (sg k r = s) := by
 unfold W7
 cases h : (s5 k rs).find? (fun g => g.1 == s) with
 | some g =>
  have hs : g.1 = s := eq_of_beq (List.find?_some (p := fun g : List Nat × List Rw => g.1 == s) h)
  rw [← hs]; exact (Q4 P (List.mem_of_find?_eq_some h)).symm
 | none =>
  refine (List.filter_eq_nil_iff.mpr fun r hr => ?_).symm
  rw [← E2 k rs] at hr
  obtain ⟨g, hg, hrg⟩ := List.mem_flatMap.mp hr
  have := List.find?_eq_none.mp h g hg
  rw [(I4 k rs g hg).2 r hrg]
  simpa using this
section
variable {G : Gl}
theorem aD6 (FA : V1 G) {f k : Nat} {gs : List (List Nat × List Rw)} {s : List Nat} (hd : 0 < G.d) : Pure G "branch_at" [.tup (gs.map (brV f k)), .str s] (e8 f ((W7 s gs).map (K4 k))) := by
 refine l7 FA rfl hd (D6 (fun i ρ σ => (∀ g ∈ gs.take i, (g.1 == s) = false) ∧ ∃ u v, ρ = [.tup (gs.map (brV f k)), .str s, u, v]) (a8 0 rfl) rfl ⟨fun g hg => (by rw [List.take_zero] at hg; cases hg), .unb, .unb, rfl⟩ ?_ ?_)
 ·rintro i ρ σ x hx ⟨h0, u, v, rfl⟩
  rw [List.getElem?_map] at hx
  obtain ⟨g, hg, rfl⟩ := Option.map_eq_some_iff.mp hx
  refine ⟨_, D4 2 3, f8 (d8 (a8 2 rfl) (a8 1 rfl) J9) (fun h => g8 (a8 3 rfl (v0 _ _)) ?_) fun h => d6 (d6 ⟨?_, _, _, rfl⟩)⟩
  ·have e : gs.find? (fun g => g.1 == s) = some g := by
    obtain ⟨hi, e⟩ := List.getElem?_eq_some_iff.mp hg
    conv => lhs; rw [← List.take_append_drop i gs]
    rw [List.find?_append, List.find?_eq_none.mpr (fun x hx => by rw [h0 x hx]; exact Bool.false_ne_true), Option.none_or, List.drop_eq_getElem_cons hi, e, List.find?_cons, h]
   show Res σ _ (e8 f ((W7 s gs).map (K4 k)))
   unfold W7
   rw [e]; exact .id _
  ·intro g' hg'
   rw [aQ8 hg] at hg'
   rcases List.mem_append.mp hg' with q | q
   ·exact h0 g' q
   ·rw [List.mem_singleton] at q; subst q; exact h
 ·rintro ρ σ ⟨h0, u, v, rfl⟩
  rw [List.length_map, List.take_length] at h0
  refine g8 o9 ?_
  have e : W7 s gs = [] := by unfold W7; rw [List.find?_eq_none.mpr fun x hx => by rw [h0 x hx]; exact Bool.false_ne_true]
  show Res σ .none (e8 f ((W7 s gs).map (K4 k)))
  rw [e, List.map_nil, I2]; exact .id _
theorem W0 (FR : ax4 G) (FB : V1 G) (FA : aQ1 G) {f : Nat} {rs : List Rw} (hg : Good f rs) {n : List Nat} (hn : n.length ≤ 1000) (hd : 2 ≤ G.d) : Pure G "found" [e8 f rs, .str n] (s6 n rs) := by
 have d1 : 0 < G.dn.d := by show 0 < G.d - 1; exact aK7 hd
 refine l7 FA rfl (by exact aE2 hd) (ax9 (fun m ρ σ => ∃ rs' n' u, Good m rs' ∧ n'.length ≤ 1000 ∧ s6 n' rs' = s6 n rs ∧ ρ = [e8 m rs', .str n', u]) f ⟨rs, n, .unb, hg, hn, rfl, rfl⟩ ?_)
 rintro m ρ σ ⟨rs', n', u, hg', hn', hz, rfl⟩
 by_cases hnil : rs' = []
 ·subst hnil
  rw [I2]
  exact ⟨_, d8 (a8 0 rfl) o9 (U3 C9), nofun, fun _ => g8 o9 (show Res σ .none (s6 n rs) from hz ▸ .id _)⟩
 match m, rs', hg', hz, hnil with
 | 0, rs', hg', hz, hnil => exact absurd hg'.zero hnil
 | m + 1, [], hg', hz, hnil => exact absurd rfl hnil
 | m + 1, [r], hg', hz, hnil =>
  have hr := hg'.len r (by simp)
  refine ⟨_, d8 (a8 0 rfl) o9 (U3 (B4 rfl)), fun _ => f8 (d8 (o6 (a8 0 rfl) c9 (by decide) (by decide) rfl) (i0 (lit "leaf")) J9) (fun _ => f8 (d8 (o6 (a8 0 rfl) c9 (by decide) (by decide) rfl) (a8 1 rfl) J9) (fun h => g8 (o6 (a8 0 rfl) c9 (by decide) (by decide) rfl) ?_) fun h => d6 (g8 o9 ?_)) (fun h => absurd h (by rw [beq_self_eq_true]; decide)), nofun⟩
  ·show Res σ _ (s6 n rs)
   rw [← hz]; unfold s6; rw [List.find?_cons, h]; exact .id _
  ·show Res σ _ (s6 n rs)
   rw [← hz]; unfold s6; rw [List.find?_cons, h]; exact .id _
 | m + 1, a :: b :: rs', hg', hz, hnil =>
  clear hnil
  have h2 : 2 ≤ (a :: b :: rs').length := by simp
  have htv : e8 (m + 1) (a :: b :: rs') = .tup [.str (lit "fork"), .str (a.1.take (r9 (a :: b :: rs'))), .tup ((s5 (r9 (a :: b :: rs')) (a :: b :: rs')).map (brV m (r9 (a :: b :: rs'))))] := rfl
  have hka : r9 (a :: b :: rs') ≤ a.1.length := by
   obtain ⟨z0, hz0⟩ : ∃ z, (a :: b :: rs').getLast? = some z := ⟨_, List.getLast?_eq_some_getLast (by simp)⟩
   rw [ac6 hz0]; exact (au9 a.1 z0.1).1
  have ha : a ∈ a :: b :: rs' := by simp
  generalize a :: b :: rs' = ws at *
  rw [htv]
  have hal := hg'.len a ha
  have hfu := hg'.fuel
  have P := at0 hg'.srt
  have hgg : ∀ g ∈ s5 (r9 ws) ws, Good m (g.2.map (K4 (r9 ws))) := fun g h => hg'.group h2 h
  generalize r9 ws = k at *
  have hkl : (a.1.take k).length = k := by rw [List.length_take]; exact bQ1 hka
  refine ⟨_, d8 (a8 0 rfl) o9 (U3 (B4 rfl)), fun _ => f8 (d8 (o6 (a8 0 rfl) c9 (by decide) (by decide) rfl) (i0 (lit "leaf")) J9) (fun h => absurd h (by decide +kernel)) fun _ => d6 ?_, nofun⟩
  refine i8 2 (d7 (aJ9 (G := G.dn) (a := n') (b := a.1.take k) FR (by exact hn') (by exact I0 _ _ _ _ (.k 1 i9 (.num 300) (.k 1 d5 e9 (.k 1 I9 i9 (.k 1 e9 o7 .o)))) d5 (.num 1000) tt hfu (Nat.le_of_eq hkl) hal hka) d1) (b8 (a8 1 rfl) (b8 (o6 (a8 0 rfl) c9 (by decide) (by decide) rfl) b9))) ?_
  cases hp : (a.1.take k).isPrefixOf n' with
  | false =>
   refine f8 (d8 (a8 2 rfl) o9 C9) (fun _ => g8 o9 ?_) nF
   have : s6 n' ws = .none := af2 fun r hr e => by
    have h1 : (a.1.take k).isPrefixOf n' = true := by
     rw [List.isPrefixOf_iff_prefix, ← P.pre r hr a ha, e]; exact List.take_prefix ..
    rw [hp] at h1; cases h1
   show Res σ .none (s6 n rs)
   rw [← hz, this]; exact .id _
  | true =>
   have hpt : n'.take k = a.1.take k := by
    rw [List.isPrefixOf_iff_prefix, List.prefix_iff_eq_take, hkl] at hp; exact hp.symm
   refine f8 (d8 (a8 2 rfl) o9 (B4 rfl)) nT fun _ => d6 ?_
   rw [hkl]
   refine i8 0 (d7 (aD6 (G := G.dn) (f := m) (k := k) (gs := s5 k ws) (s := (n'.drop k).take 1) FB d1) (b8 (o6 (a8 0 rfl) c9 (by decide) (by decide) rfl) (b8 (Ev.to (E9 (a := n'.drop k) (a8 2 rfl) z9 (w7 c9) (by rw [C5, List.length_drop]; exact bJ0 hn')) (congrArg V.str (B7 _ 1))) b9))) (i8 1 (E9 (a := n'.drop k) (a8 2 rfl) (w7 c9) z9 (by rw [C5, List.length_drop]; exact bJ0 hn')) (d6 ⟨m, Nat.lt_succ_self m, (W7 ((n'.drop k).take 1) (s5 k ws)).map (K4 k), n'.drop (k + 1), .str (n'.drop k), ?_, ?_, ?_, ?_⟩))
   ·unfold W7
    cases h : (s5 k ws).find? (fun g => g.1 == (n'.drop k).take 1) with
    | some g => exact hgg g (List.mem_of_find?_eq_some h)
    | none => exact ⟨.nil, fun r hr => (nomatch hr), Nat.zero_le _, by exact o5 _ (.k 1 i9 (.num 300) .o) c8 (.num 300) tt hfu⟩
   ·rw [List.length_drop]; exact bP9 hn'
   ·rw [← hz, af1 (k := k) (n := n') (rs := ws) fun r hr => (P.pre r hr a ha).trans hpt.symm, bb9 P]
   ·rw [show slice (n'.drop k) (some 1) none = n'.drop (k + 1) from (P8 _ 1).trans (by rw [List.drop_drop])]; rfl
noncomputable def k8 (n : List Nat) (rs : List Rw) : List Rw := rs.filter fun r => !(r.1 == n)
end
section
variable {G : Gl}
theorem af4 (FA : U7 G) (hsy : ∃ o, G.B.get? sysModules = some o) {os ts : List Rw} (hn : ts.length ≤ 10000) (hd : 0 < G.d) (h : ∀ r ∈ os, r.1 ∉ ts.map (·.1)) : Pure G "need_free" [.lst (os.map l9), .lst (ts.map l9)] .none := by
 refine l7 FA rfl hd (aL8 (G := G.dn) hsy hn fun u v => ?_)
 refine D6 (fun i ρ σ => ∃ u v, ρ = [.lst (os.map l9), .lst (ts.map l9), .obj (aC9 G.dn (ts.map (·.1))), u, v]) (a8 0 rfl) rfl ⟨u, v, rfl⟩ ?_ fun ρ σ _ => d6 (by exact rfl)
 rintro i ρ σ y hy ⟨u, v, rfl⟩
 rw [List.getElem?_map] at hy
 obtain ⟨r, hr, rfl⟩ := Option.map_eq_some_iff.mp hy
 exact ⟨_, D4 3 4, f8 (X5 (a8 3 rfl) (a8 2 rfl)) (fun e => absurd (of_decide_eq_true e) (h r (List.mem_of_getElem? hr))) fun _ => d6 (d6 ⟨_, _, rfl⟩)⟩
theorem aC3 {α : Type} (p : α → Prop) [DecidablePred p] : ∀ {l : List α}, (∃ r ∈ l, p r) → ∃ (j : Nat) (r : α), l[j]? = some r ∧ p r ∧ ∀ i r', i < j → l[i]? = some r' → ¬ p r'
 | [], ⟨r, h, _⟩ => nomatch h
 | a :: l, h => by
  by_cases ha : p a
  ·exact ⟨0, a, rfl, ha, fun i r' hi => absurd hi (Nat.not_lt_zero i)⟩
  ·obtain ⟨r, hr, q⟩ := h
   have hr : r ∈ l := (List.mem_cons.mp hr).resolve_left (by rintro rfl; exact ha q)
   obtain ⟨j, r₁, h1, h2, h3⟩ := aC3 p ⟨r, hr, q⟩
   refine ⟨j + 1, r₁, h1, h2, fun i r' hi hr' => ?_⟩
   cases i with
   | zero => cases hr'; exact ha
   | succ i => exact h3 i r' (by exact n8 _ _ (.k 1 (.add i9 k9) y0 .o) i9 d5 tt hi) hr'
theorem ae2 (FA : U7 G) (hsy : ∃ o, G.B.get? sysModules = some o) {X : Addr} (hX : XC G "Taken" X) {os ts : List Rw} (hn : ts.length ≤ 10000) (hd : 0 < G.d) (h : ∃ r ∈ os, r.1 ∈ ts.map (·.1)) : Rz G "need_free" [.lst (os.map l9), .lst (ts.map l9)] X := by
 obtain ⟨j, r, hj, hr, hb⟩ := aC3 (fun r : Rw => r.1 ∈ ts.map (·.1)) h
 refine az3 FA rfl hd (G0 [_, _] (aL8 (G := G.dn) hsy hn fun u v => d6 ⟨rfl, ?_⟩))
 have hjl : j < (os.map l9).length := by rw [List.length_map]; exact (List.getElem?_eq_some_iff.mp hj).1
 refine aZ4 (fun i ρ σ => ∃ u v, ρ = [.lst (os.map l9), .lst (ts.map l9), .obj (aC9 G.dn (ts.map (·.1))), u, v]) j hjl (a8 0 rfl) rfl ⟨u, v, rfl⟩ ?_ ?_
 ·rintro i ρ σ y hi hy ⟨u, v, rfl⟩
  rw [List.getElem?_map] at hy
  obtain ⟨r', hr', rfl⟩ := Option.map_eq_some_iff.mp hy
  exact ⟨_, D4 3 4, f8 (X5 (a8 3 rfl) (a8 2 rfl)) (fun e => absurd (of_decide_eq_true e) (hb i r' hi hr')) fun _ => d6 (d6 ⟨_, _, rfl⟩)⟩
 ·rintro ρ σ y hy ⟨u, v, rfl⟩
  rw [List.getElem?_map, hj] at hy
  cases hy
  exact ⟨_, D4 3 4, Y4 (X5 (a8 3 rfl) (a8 2 rfl)) (fun _ => J4 hX) fun e => absurd hr (of_decide_eq_false e)⟩
end
noncomputable def x8 (b : List Nat) (rs : List Rw) : List Rw := rs.filter fun r => !b.isPrefixOf r.1
noncomputable def B8 (b : List Nat) (rs : List Rw) : List Rw := (rs.filter fun r => b.isPrefixOf r.1).map fun r => (r.1.drop b.length, r.2)
theorem aj2 (b : List Nat) (rs : List Rw) (r : Rw) : x8 b (rs ++ [r]) = x8 b rs ++ if b.isPrefixOf r.1 then [] else [r] := by
 unfold x8; rw [List.filter_append]; cases h : b.isPrefixOf r.1 <;> simp [h]
theorem al8 (b : List Nat) (rs : List Rw) (r : Rw) : B8 b (rs ++ [r]) = B8 b rs ++ if b.isPrefixOf r.1 then [(r.1.drop b.length, r.2)] else [] := by
 unfold B8; rw [List.filter_append]; cases h : b.isPrefixOf r.1 <;> simp [h]
theorem au3 (b a : List Nat) : b.isPrefixOf a = (a.take b.length == b) := by
 rw [Bool.eq_iff_iff, List.isPrefixOf_iff_prefix, beq_iff_eq, List.prefix_iff_eq_take]
 exact ⟨Eq.symm, Eq.symm⟩
theorem ac5 {b : List Nat} {rs : List Rw} (R : Rows rs) : Rows (x8 b rs) :=
 ⟨R.srt.filter _, fun r hr => R.len r (List.mem_filter.mp hr).1, Nat.le_trans (List.length_filter_le ..) R.num⟩
theorem ad1 {b : List Nat} {rs : List Rw} (R : Rows rs) : Rows (B8 b rs) := by
 refine ⟨?_, fun r hr => ?_, ?_⟩
 ·unfold B8 Srt
  rw [List.pairwise_map]
  refine List.Pairwise.imp_of_mem ?_ (R.srt.filter fun r => b.isPrefixOf r.1)
  intro x y hx hy l
  have ex := (List.mem_filter.mp hx).2
  have ey := (List.mem_filter.mp hy).2
  rw [List.isPrefixOf_iff_prefix] at ex ey
  obtain ⟨s, hs⟩ := ex
  obtain ⟨t, ht⟩ := ey
  rw [← hs, ← ht] at l ⊢
  simp only [List.drop_left]
  exact O8.mp l
 ·obtain ⟨q, hq, rfl⟩ := List.mem_map.mp hr
  have := R.len q (List.mem_filter.mp hq).1
  show (q.1.drop _).length ≤ 40
  rw [List.length_drop]; exact bQ0 this
 ·unfold B8; rw [List.length_map]; exact Nat.le_trans (List.length_filter_le ..) R.num
section
variable {G : Gl}
theorem aD3 (FR : ax4 G) (FG : V0 G) (FN : ax5 G) (FP : aF5 G) {rs : List Rw} (R : Rows rs) {b : List Nat} (hb : b.length ≤ 40) (hd : 60 ≤ G.d) : Pure G "parted" [e8 50 rs, .str b] (.tup [.lst ((x8 b rs).map l9), .lst ((B8 b rs).map l9)]) := by
 have hn := R.num
 refine l7 FP rfl (by first | exact Nat.le_trans (by decide) hd | exact Nat.le_trans (by decide) hG) (X3 2 fun p _ => X3 3 fun q hq => ?_)
 have hpq : p ≠ q := by rintro rfl; rw [Ow.set_self] at hq; cases hq
 refine D6 (fun i ρ σ => σ p = some (.lst ((x8 b (rs.take i)).map l9)) ∧ σ q = some (.lst ((B8 b (rs.take i)).map l9)) ∧ ∃ u v w, ρ = [e8 50 rs, .str b, .ref p, .ref q, u, v, w]) (d7 (R3 (G := G.dn) FG FN (R.good (f := 50) (by decide) (by decide)) (by first | exact dl hd | exact dl0 hd | (show 52 ≤ G.d - 1; first | (first | lia | omega) | (first | lia | omega)))) (b8 (a8 0 rfl (v0 _ _)) b9)) rfl ⟨by rw [Ow.set_ne _ _ hpq, Ow.set_self]; rfl, by rw [Ow.set_self]; rfl, _, _, _, rfl⟩ ?_ ?_
 ·rintro i ρ σ x hx ⟨hp1, hq1, u, v, w, rfl⟩
  rw [List.getElem?_map] at hx
  obtain ⟨r, hr, rfl⟩ := Option.map_eq_some_iff.mp hx
  have hrl := R.len r (List.mem_of_getElem? hr)
  have htk : rs.take (i + 1) = rs.take i ++ [r] := by
   obtain ⟨hi, e⟩ := List.getElem?_eq_some_iff.mp hr
   rw [List.take_succ_eq_append_getElem hi, e]
  have hl1 : (x8 b (rs.take i)).length ≤ 150 := Nat.le_trans (List.length_filter_le ..) (by rw [List.length_take]; exact bJ1 hn)
  have hl2 : (B8 b (rs.take i)).length ≤ 150 := by unfold B8; rw [List.length_map]; exact Nat.le_trans (List.length_filter_le ..) (by rw [List.length_take]; exact bJ1 hn)
  refine ⟨_, D4 4 5, i8 6 (d7 (aJ9 (G := G.dn) FR (by exact M4 hrl) (by exact M4 hb) (by first | exact dl hd | exact dl0 hd | (show 0 < G.d - 1; first | (first | lia | omega) | (first | lia | omega)))) (b8 (a8 4 rfl) (b8 (a8 1 rfl) b9))) ?_⟩
  cases hpf : b.isPrefixOf r.1 with
  | true =>
   refine f8 (d8 (a8 6 rfl) o9 (B4 rfl)) nT fun _ => B0 (a8 3 rfl) hq1 (n6 (b8 (a8 6 rfl) (b8 (a8 5 rfl) b9)) sz2) (by rw [List.length_map, C5]; exact aL0 hl2) (d6 (d6 ⟨?_, ?_, _, _, _, rfl⟩))
   ·rw [Ow.set_ne _ _ hpq, htk, aj2, if_pos hpf, List.append_nil]; exact hp1
   ·rw [Ow.set_self, htk, al8, if_pos hpf, List.map_append]; rfl
  | false =>
   refine f8 (d8 (a8 6 rfl) o9 C9) (fun _ => B0 (a8 2 rfl) hp1 (n6 (b8 (a8 4 rfl) (b8 (a8 5 rfl) b9)) sz2) (by rw [List.length_map, C5]; exact aL0 hl1) (d6 (d6 ⟨?_, ?_, _, _, _, rfl⟩))) nF
   ·rw [Ow.set_self, htk, aj2, hpf, List.map_append]; rfl
   ·rw [Ow.set_ne _ _ hpq.symm, htk, al8, hpf, if_neg Bool.false_ne_true, List.append_nil]; exact hq1
 ·rintro ρ σ ⟨hp1, hq1, u, v, w, rfl⟩
  rw [List.length_map, List.take_length] at hp1 hq1
  exact g8 (n6 (b8 (a8 2 rfl) (b8 (a8 3 rfl) b9)) sz2) (.tup (.cons (.frz hp1) (.cons (.frz hq1) .nil)))
end
structure CP (G : Gl) : Prop where
 common : ab6 G
 rest : ax4 G
 gather : V0 G
 names : ax5 G
 name_of : ae1 G
 grouped : W2 G
 built : ai0 G
 built_of : an8 G
 branch_at : V1 G
 found : aQ1 G
 put : bL4 G
 without : aW9 G
 under : bv2 G
 many : bF1 G
 parted : aF5 G
 need_free : U7 G
 cut : bL5 G
 renamed : aX0 G
 moved : bv3 G
 copied : bj8 G
 sys : ∃ o, G.B.get? sysModules = some o
theorem CP.dn {G : Gl} (C : CP G) : CP G.dn := ⟨C.1, C.2, C.3, C.4, C.5, C.6, C.7, C.8, C.9, C.10, C.11, C.12, C.13, C.14, C.15, C.16, C.17, C.18, C.19, C.20, C.21⟩
noncomputable def d9 (b : List Nat) (rs : List Rw) : List Rw := rs.filter fun r => b.isPrefixOf r.1
theorem aK2 {b : List Nat} {rs : List Rw} (R : Rows rs) : Rows (d9 b rs) :=
 ⟨R.srt.filter _, fun r hr => R.len r (List.mem_filter.mp hr).1, Nat.le_trans (List.length_filter_le ..) R.num⟩
theorem au1 {n : List Nat} {v : Int} {rs : List Rw} (h : Srt rs) : Dst (k8 n rs ++ [(n, v)]) := by
 unfold Dst
 rw [List.pairwise_append]
 refine ⟨(h.dst).filter _, List.pairwise_singleton .., fun a ha b hb => ?_⟩
 rw [List.mem_singleton] at hb; subst hb
 have := (List.mem_filter.mp ha).2
 simpa using this
theorem bb4 {n : List Nat} {v : Int} {rs : List Rw} (R : Rows rs) (hn : n.length ≤ 40) : Good 50 (y4 (k8 n rs ++ [(n, v)])) := by
 refine ⟨E4 (au1 R.srt), fun r hr => ?_, ?_, by decide⟩
 ·rcases List.mem_append.mp ((m8 _).mem_iff.mp hr) with q | q
  ·have := R.len r (List.mem_filter.mp q).1; exact bD5 this
  ·rw [List.mem_singleton] at q; subst q; show n.length < 50; exact bD5 hn
 ·have := R.num
  have h2 : (k8 n rs).length ≤ rs.length := List.length_filter_le ..
  rw [(m8 _).length_eq, List.length_append]; show _ + 1 ≤ _; exact n8 _ _ (.k 1 c8 d5 (.k 1 d5 (.num 150) .o)) i9 (.num 1000) tt h2 this
theorem aA8 {n : List Nat} {rs : List Rw} (R : Rows rs) : Good 50 (k8 n rs) :=
 have h2 : (k8 n rs).length ≤ rs.length := List.length_filter_le ..
 ⟨R.srt.filter _, fun r hr => by have := R.len r (List.mem_filter.mp hr).1; exact bD5 this, by have := R.num; exact n8 _ _ (.k 1 c8 d5 (.k 1 d5 (.num 150) .o)) c8 (.num 1000) tt h2 this, by decide⟩
theorem aC1 {n : List Nat} {rs : List Rw} (h : ∃ r ∈ rs, r.1 = n) : ∃ v, s6 n rs = .int v := by
 unfold s6
 cases q : rs.find? (fun r => r.1 == n) with
 | some r => exact ⟨_, rfl⟩
 | none => obtain ⟨r, hr, e⟩ := h; exact absurd (beq_iff_eq.mpr e) (by simpa using List.find?_eq_none.mp q r hr)
noncomputable def g0 (b o : List Nat) (rs : List Rw) : List Rw := (B8 b rs).map fun r => (o ++ r.1, r.2)
structure Two (st fr : List Rw) : Prop where
 st : Rows st
 srt : Srt fr
 len : ∀ r ∈ fr, r.1.length ≤ 80
 num : fr.length ≤ 150
theorem P0 {st rs : List Rw} {b o : List Nat} (S : Rows st) (R : Rows rs) (ho : o.length ≤ 40) : Two st (g0 b o rs) := by
 have g := ad1 (b := b) R
 refine ⟨S, ?_, fun r hr => ?_, by unfold g0; rw [List.length_map]; exact g.num⟩
 ·unfold g0 Srt
  rw [List.pairwise_map]
  exact g.srt.imp fun h => O8.mpr h
 ·obtain ⟨q, hq, rfl⟩ := List.mem_map.mp hr
  have := g.len q hq
  show (o ++ q.1).length ≤ 80
  rw [List.length_append]; exact n8 _ _ (.k 1 c8 (.num 40) (.k 1 d5 (.num 40) .o)) (.add c8 d5) (.num 80) tt ho this
section
variable {st fr : List Rw}
theorem Two.dst (T : Two st fr) (h : ∀ r ∈ fr, r.1 ∉ st.map (·.1)) : Dst (st ++ fr) := by
 unfold Dst
 rw [List.pairwise_append]
 exact ⟨T.st.srt.dst, T.srt.dst, fun a ha b hb e => h b hb (e ▸ List.mem_map_of_mem (f := (·.1)) ha)⟩
theorem Two.good (T : Two st fr) (h : ∀ r ∈ fr, r.1 ∉ st.map (·.1)) : Good 100 (y4 (st ++ fr)) := by
 refine ⟨E4 (T.dst h), fun r hr => ?_, ?_, by decide⟩
 ·rcases List.mem_append.mp ((m8 _).mem_iff.mp hr) with q | q
  ·have := T.st.len r q; exact o5 _ (.k 1 c8 (.num 40) .o) i9 (.num 100) tt this
  ·have := T.len r q; exact o5 _ (.k 1 c8 (.num 80) .o) i9 (.num 100) tt this
 ·have h1 := T.st.num
  have h2 := T.num
  rw [(m8 _).length_eq, List.length_append]; exact n8 _ _ (.k 1 c8 (.num 150) (.k 1 d5 (.num 150) .o)) (.add c8 d5) (.num 1000) tt h1 h2
end
noncomputable def M3 (st fr : List Rw) : Bool := !((fr.filter fun r => (st.map (·.1)).contains r.1).map l9).isEmpty
theorem av2 {st fr : List Rw} (h : M3 st fr = true) : ∃ r ∈ fr, r.1 ∈ st.map (·.1) := by
 refine Classical.byContradiction fun hc => ?_
 unfold M3 at h
 rw [List.filter_eq_nil_iff.mpr fun r hr q => hc ⟨r, hr, List.contains_iff_mem.mp q⟩] at h
 cases h
theorem al6 {st fr : List Rw} (h : M3 st fr = false) : ∀ r ∈ fr, r.1 ∉ st.map (·.1) := fun r hr q => by
 unfold M3 at h
 cases hq : fr.filter fun r => (st.map (·.1)).contains r.1 with
 | nil => exact List.filter_eq_nil_iff.mp hq r hr (List.contains_iff_mem.mpr q)
 | cons a l => rw [hq] at h; cases h
section
variable {G : Gl}
theorem bI4 (C : CP G) {rs : List Rw} (R : Rows rs) {n : List Nat} {v : Int} (hn : n.length ≤ 40) (hd : 60 ≤ G.d) : Pure G "put" [e8 50 rs, .str n, .int v] (e8 50 (y4 (k8 n rs ++ [(n, v)]))) := by
 have hnum := R.num
 have h2 : (k8 n rs).length ≤ rs.length := List.length_filter_le ..
 have e1 : (rs.filterMap fun r => if !(r.1 == n) then some (l9 r) else none) = (k8 n rs).map l9 := by rw [H3]; rfl
 refine l7 C.put rfl (by exact bi7 hd) (J3 (caps := [1]) (Fv := l9) (ts := rs) 3 (fun r => if !(r.1 == n) then some (l9 r) else none) (d7 (R3 (G := G.dn) C.gather C.names (R.good (f := 50) (by decide) (by decide)) (by show 52 ≤ G.d - 1; exact bi6 hd)) (b8 (a8 0 rfl (v0 _ _)) b9)) rfl (by rw [C5]; exact aL0 hnum) (fun r hr => V5 (d8 (Q7 (r := r) (a8 1 rfl)) (a8 0 rfl) R1) fun _ => a8 1 rfl) ?_)
 rw [e1]
 exact g8 (d7 (Y0 (G := G.dn) C.common C.grouped C.built C.name_of C.built_of (au1 R.srt) (bb4 R hn) (by show 53 ≤ G.d - 1; exact bR0 hd)) (b8 (Ev.to (aa6 (a8 3 rfl) (z6 (b8 (n6 (b8 (a8 1 rfl) (b8 (a8 2 rfl) b9)) sz2) b9) sz1) (by rw [List.length_map, C5]; show _ + 1 ≤ _; exact n8 _ _ (.k 1 c8 d5 (.k 1 d5 (.num 150) .o)) i9 (.num 16777216) tt h2 hnum)) (by rw [List.map_append]; rfl)) b9)) (.id _)
theorem aT9 (C : CP G) {rs : List Rw} (R : Rows rs) {n : List Nat} (hn : n.length ≤ 40) (hd : 60 ≤ G.d) (h : ∃ r ∈ rs, r.1 = n) : Pure G "without" [e8 50 rs, .str n] (e8 50 (k8 n rs)) := by
 have hnum := R.num
 obtain ⟨v, hv⟩ := aC1 h
 have hf := W0 (G := G.dn) C.rest C.branch_at C.found (R.good (f := 50) (by decide) (by decide)) (n := n) (by exact M4 hn) (by show 2 ≤ G.d - 1; exact bJ5 hd)
 rw [hv] at hf
 have e1 : (rs.filterMap fun r => if !(r.1 == n) then some (l9 r) else none) = (k8 n rs).map l9 := by rw [H3]; rfl
 refine l7 C.without rfl (by exact bi7 hd) (f8 (d8 (d7 hf (b8 (a8 0 rfl (v0 _ _)) (b8 (a8 1 rfl) b9))) o9 (B4 rfl)) nT fun _ => d6 ?_)
 exact g8 (d7 (ah9 50 (G := G.dn) C.common C.grouped C.built (aA8 R) (by show 52 ≤ G.d - 1; exact bi6 hd)) (b8 (Ev.to (aa5 (caps := [1]) (Fv := l9) (ts := rs) (fun r => if !(r.1 == n) then some (l9 r) else none) (d7 (R3 (G := G.dn) C.gather C.names (R.good (f := 50) (by decide) (by decide)) (by show 52 ≤ G.d - 1; exact bi6 hd)) (b8 (a8 0 rfl (v0 _ _)) b9)) rfl (by rw [C5]; exact aL0 hnum) (fun r hr => V5 (d8 (Q7 (r := r) (a8 1 rfl)) (a8 0 rfl) R1) fun _ => a8 1 rfl)) (congrArg V.lst e1)) b9)) (.id _)
theorem aQ2 (C : CP G) {X : Addr} (hX : XC G "NotThere" X) {rs : List Rw} (R : Rows rs) {n : List Nat} (hn : n.length ≤ 40) (hd : 60 ≤ G.d) (h : ∀ r ∈ rs, r.1 ≠ n) : Rz G "without" [e8 50 rs, .str n] X := by
 have hf := W0 (G := G.dn) C.rest C.branch_at C.found (R.good (f := 50) (by decide) (by decide)) (n := n) (by exact M4 hn) (by show 2 ≤ G.d - 1; exact bJ5 hd)
 rw [af2 h] at hf
 exact az3 C.without rfl (by exact bi7 hd) (Y4 (d8 (d7 hf (b8 (a8 0 rfl (v0 _ _)) (b8 (a8 1 rfl) b9))) o9 C9) (fun _ => J4 hX) nF)
theorem br1 {a b : List Nat} : Cm G .IsNot (if b.isPrefixOf a then .str (a.drop b.length) else .none) .none (b.isPrefixOf a) := by
 cases h : b.isPrefixOf a
 ·exact U3 C9
 ·exact U3 (B4 rfl)
theorem ab0 (C : CP G) {rs : List Rw} (R : Rows rs) {b : List Nat} (hb : b.length ≤ 40) (hd : 60 ≤ G.d) : New G "under" [e8 50 rs, .str b] ((d9 b rs).map l9) := by
 have hn := R.num
 refine bz5 C.under rfl (by exact bi7 hd) (ay0 (caps := [1]) (Fv := l9) (ts := rs) (fun r => if b.isPrefixOf r.1 then some (l9 r) else none) (d7 (R3 (G := G.dn) C.gather C.names (R.good (f := 50) (by decide) (by decide)) (by show 52 ≤ G.d - 1; exact bi6 hd)) (b8 (a8 0 rfl (v0 _ _)) b9)) rfl (by rw [C5]; exact aL0 hn) (fun r hr => ?_) fun a _ => ⟨a, rfl, ?_⟩)
 ·have hrl := R.len r hr
  exact V5 (d8 (d7 (aJ9 (G := G.dn) C.rest (by exact M4 hrl) (by exact M4 hb) (by show 0 < G.d - 1; exact bQ9 hd)) (b8 (Q7 (r := r) (a8 1 rfl)) (b8 (a8 0 rfl) b9))) o9 br1) fun _ => a8 1 rfl
 ·rw [Ow.set_self, H3]; rfl
theorem bg5 (C : CP G) {rs : List Rw} (R : Rows rs) {b : List Nat} (hb : b.length ≤ 40) (hd : 61 ≤ G.d) : Pure G "many" [e8 50 rs, .str b] (.int ((d9 b rs).map l9).length) := by
 have hn := (aK2 (b := b) R).num
 exact l7 C.many rfl (by exact o5 _ (.k 1 (.num 61) c8 .o) (.add w9 k9) c8 tt hd) (g8 (A6 (d7 (New.pure (ab0 (G := G.dn) C.dn R hb (by show 60 ≤ G.d - 1; exact bR2 hd))) (b8 (a8 0 rfl (v0 _ _)) (b8 (a8 1 rfl) b9))) (by rw [List.length_map]; exact bE1 hn)) (.id _))
theorem bI5 (C : CP G) {rs : List Rw} (R : Rows rs) {b : List Nat} (hb : b.length ≤ 40) (hd : 70 ≤ G.d) : Pure G "cut" [e8 50 rs, .str b] (.tup [e8 50 (x8 b rs), e8 50 (B8 b rs)]) := by
 refine l7 C.cut rfl (by exact aL1 hd) (i8 2 (d7 (aD3 (G := G.dn) C.rest C.gather C.names C.parted R hb (by show 60 ≤ G.d - 1; exact bt7 hd)) (b8 (a8 0 rfl (v0 _ _)) (b8 (a8 1 rfl) b9))) ?_)
 exact g8 (n6 (b8 (d7 (ah9 50 (G := G.dn) C.common C.grouped C.built ((ac5 R).good (by decide) (by decide)) (by show 52 ≤ G.d - 1; exact bJ3 hd)) (b8 (o6 (a8 2 rfl) c9 (by decide) (by decide) rfl) b9)) (b8 (d7 (ah9 50 (G := G.dn) C.common C.grouped C.built ((ad1 R).good (by decide) (by decide)) (by show 52 ≤ G.d - 1; exact bJ3 hd)) (b8 (o6 (a8 2 rfl) c9 (by decide) (by decide) rfl) b9)) b9)) sz2) (.id _)
theorem aJ7 (C : CP G) {K : Sx} {ρ : List V} {σ : Ow} {rs : List Rw} (R : Rows rs) {b : List Nat} (hb : b.length ≤ 40) (hd : 60 ≤ G.d) {e1 e2 : PySem.Expr} {q p : Pos} (h1 : Ev G K ρ σ e1 (e8 50 rs)) (h2 : Ev G K ρ σ e2 (.str b)) (hs : [e1, e2].all f0 = true := by rfl) (hg : j8 K "parted" = true := by decide +kernel) :
  Ev G K ρ σ (.Call (.Name "parted" q) [e1, e2] [] p) (.tup [.lst ((x8 b rs).map l9), .lst ((B8 b rs).map l9)]) := d7 (aD3 C.rest C.gather C.names C.parted R hb hd) (b8 h1 (b8 h2 b9)) hs hg
theorem V9 (C : CP G) {rs : List Rw} (R : Rows rs) {b o : List Nat} (hb : b.length ≤ 40) (ho : o.length ≤ 40) (hd : 70 ≤ G.d) (h : B8 b rs ≠ []) : Pure G "renamed" [e8 50 rs, .str b, .str o] (.lst ((g0 b o rs).map l9)) := by
 have g := ad1 (b := b) R
 have gn := g.num
 have hl : ((B8 b rs).map l9).length = (B8 b rs).length := List.length_map ..
 refine l7 C.renamed rfl (by first | exact Nat.le_trans (by decide) hd | exact Nat.le_trans (by decide) hG) (i8 3 (o6 (aJ7 C.dn R hb (by first | exact dl hd | exact dl0 hd | (show 60 ≤ G.d - 1; first | (first | lia | omega) | (first | lia | omega))) (a8 0 rfl (v0 _ _)) (a8 1 rfl)) c9 (by decide) (by decide) rfl) ?_)
 refine f8 (d8 (A6 (a8 3 rfl) (by rw [hl]; exact bE1 gn)) c9 m7) (fun e => ?_) fun _ => d6 ?_
 ·rw [beq_iff_eq, hl] at e
  exact absurd (List.eq_nil_of_length_eq_zero (by exact Nat.le_antisymm (o5 _ (.k 1 c8 w9 .o) c8 w9 tt (Nat.le_of_eq (Int.ofNat_inj.mp e))) (o5 _ .o w9 c8 tt ))) h
 ·refine g8 (aC5 (caps := [2]) (Fv := l9) (Fw := fun r : Rw => [.str r.1, .int r.2]) (ts := B8 b rs) (fun r => some (l9 (o ++ r.1, r.2))) (fun r => .two _ _ _ _ _ _ _ _ (by decide)) (a8 3 rfl) rfl (by rw [C5]; exact aL0 gn) (fun r hr => O2 (n6 (b8 (E7 (a8 0 rfl) (a8 1 rfl) (by have := g.len r hr; rw [C5]; exact n8 _ _ (.k 1 c8 (.num 40) (.k 1 d5 (.num 40) .o)) (.add c8 d5) (.num 16777216) tt ho this)) (b8 (a8 2 rfl) b9)) sz2)) (by decide +kernel) (by intros; rfl)) ?_
  rw [List.filterMap_eq_map']
  show Res _ _ (.lst ((g0 b o rs).map l9))
  unfold g0
  rw [List.map_map]; exact .id _
section
variable {rs : List Rw} {b o : List Nat}
theorem br8 (C : CP G) (R : Rows rs) (hb : b.length ≤ 40) (ho : o.length ≤ 40) (hd : 110 ≤ G.d) (h : B8 b rs ≠ []) (hn : M3 (x8 b rs) (g0 b o rs) = false) : Pure G "moved" [e8 50 rs, .str b, .str o] (e8 100 (y4 (x8 b rs ++ g0 b o rs))) := by
 have T := P0 (b := b) (ac5 (b := b) R) R ho
 have h1 := T.st.num
 have h2 := T.num
 have hh := al6 hn
 refine l7 C.moved rfl (by first | exact Nat.le_trans (by decide) hd | exact Nat.le_trans (by decide) hG) (i8 3 (d7 (V9 C.dn R hb ho (by first | exact dl hd | exact dl0 hd | (show 70 ≤ G.d - 1; first | (first | lia | omega) | (first | lia | omega))) h) (b8 (a8 0 rfl (v0 _ _)) (b8 (a8 1 rfl) (b8 (a8 2 rfl) b9)))) (i8 4 (o6 (aJ7 C.dn R hb (by first | exact dl hd | exact dl0 hd | (show 60 ≤ G.d - 1; first | (first | lia | omega) | (first | lia | omega))) (a8 0 rfl (v0 _ _)) (a8 1 rfl)) c9 (by decide) (by decide) rfl) ?_))
 refine n9 (d7 (af4 (G := G.dn) C.need_free C.sys (by exact bt1 h1) (by first | exact dl hd | exact dl0 hd | (show 0 < G.d - 1; first | (first | lia | omega) | (first | lia | omega))) hh) (b8 (a8 3 rfl) (b8 (a8 4 rfl) b9))) ?_
 exact g8 (d7 (Y0 (G := G.dn) C.common C.grouped C.built C.name_of C.built_of (T.dst hh) (T.good hh) (by first | exact dl hd | exact dl0 hd | (show 103 ≤ G.d - 1; first | (first | lia | omega) | (first | lia | omega)))) (b8 (Ev.to (aa6 (a8 4 rfl) (a8 3 rfl) (by rw [List.length_map, List.length_map, C5]; exact n8 _ _ (.k 1 c8 (.num 150) (.k 1 d5 (.num 150) .o)) (.add c8 d5) (.num 16777216) tt h1 h2)) (by rw [List.map_append])) b9)) (.id _)
theorem aD5 (C : CP G) (R : Rows rs) (hb : b.length ≤ 40) (ho : o.length ≤ 40) (hd : 110 ≤ G.d) (h : B8 b rs ≠ []) (hn : M3 rs (g0 b o rs) = false) : Pure G "copied" [e8 50 rs, .str b, .str o] (e8 100 (y4 (rs ++ g0 b o rs))) := by
 have T := P0 (b := b) R R ho
 have h1 := T.st.num
 have h2 := T.num
 have hh := al6 hn
 refine l7 C.copied rfl (by first | exact Nat.le_trans (by decide) hd | exact Nat.le_trans (by decide) hG) (i8 3 (d7 (V9 C.dn R hb ho (by first | exact dl hd | exact dl0 hd | (show 70 ≤ G.d - 1; first | (first | lia | omega) | (first | lia | omega))) h) (b8 (a8 0 rfl (v0 _ _)) (b8 (a8 1 rfl) (b8 (a8 2 rfl) b9)))) (i8 4 (d7 (R3 (G := G.dn) C.gather C.names (R.good (f := 50) (by decide) (by decide)) (by first | exact dl hd | exact dl0 hd | (show 52 ≤ G.d - 1; first | (first | lia | omega) | (first | lia | omega)))) (b8 (a8 0 rfl (v0 _ _)) b9)) ?_))
 refine n9 (d7 (af4 (G := G.dn) C.need_free C.sys (by exact bt1 h1) (by first | exact dl hd | exact dl0 hd | (show 0 < G.d - 1; first | (first | lia | omega) | (first | lia | omega))) hh) (b8 (a8 3 rfl) (b8 (a8 4 rfl) b9))) ?_
 exact g8 (d7 (Y0 (G := G.dn) C.common C.grouped C.built C.name_of C.built_of (T.dst hh) (T.good hh) (by first | exact dl hd | exact dl0 hd | (show 103 ≤ G.d - 1; first | (first | lia | omega) | (first | lia | omega)))) (b8 (Ev.to (aa6 (a8 4 rfl) (a8 3 rfl) (by rw [List.length_map, List.length_map, C5]; exact n8 _ _ (.k 1 c8 (.num 150) (.k 1 d5 (.num 150) .o)) (.add c8 d5) (.num 16777216) tt h1 h2)) (by rw [List.map_append])) b9)) (.id _)
theorem bm3 (C : CP G) {X : Addr} (hX : XC G "Taken" X) (R : Rows rs) (hb : b.length ≤ 40) (ho : o.length ≤ 40) (hd : 110 ≤ G.d) (h : B8 b rs ≠ []) (hn : M3 (x8 b rs) (g0 b o rs) = true) : Rz G "moved" [e8 50 rs, .str b, .str o] X := by
 have h1 := (ac5 (b := b) R).num
 exact az3 C.moved rfl (by first | exact Nat.le_trans (by decide) hd | exact Nat.le_trans (by decide) hG) (G0 [_, _] (i8 3 (d7 (V9 C.dn R hb ho (by first | exact dl hd | exact dl0 hd | (show 70 ≤ G.d - 1; first | (first | lia | omega) | (first | lia | omega))) h) (b8 (a8 0 rfl (v0 _ _)) (b8 (a8 1 rfl) (b8 (a8 2 rfl) b9)))) (i8 4 (o6 (aJ7 C.dn R hb (by first | exact dl hd | exact dl0 hd | (show 60 ≤ G.d - 1; first | (first | lia | omega) | (first | lia | omega))) (a8 0 rfl (v0 _ _)) (a8 1 rfl)) c9 (by decide) (by decide) rfl) (d6 ⟨rfl,
  I8 (ae2 (G := G.dn) C.need_free C.sys hX (by exact bt1 h1) (by first | exact dl hd | exact dl0 hd | (show 0 < G.d - 1; first | (first | lia | omega) | (first | lia | omega))) (av2 hn)) (b8 (a8 3 rfl) (b8 (a8 4 rfl) b9))⟩))))
theorem ba5 (C : CP G) {X : Addr} (hX : XC G "Taken" X) (R : Rows rs) (hb : b.length ≤ 40) (ho : o.length ≤ 40) (hd : 110 ≤ G.d) (h : B8 b rs ≠ []) (hn : M3 rs (g0 b o rs) = true) : Rz G "copied" [e8 50 rs, .str b, .str o] X := by
 have h1 := R.num
 exact az3 C.copied rfl (by first | exact Nat.le_trans (by decide) hd | exact Nat.le_trans (by decide) hG) (G0 [_, _] (i8 3 (d7 (V9 C.dn R hb ho (by first | exact dl hd | exact dl0 hd | (show 70 ≤ G.d - 1; first | (first | lia | omega) | (first | lia | omega))) h) (b8 (a8 0 rfl (v0 _ _)) (b8 (a8 1 rfl) (b8 (a8 2 rfl) b9)))) (i8 4 (d7 (R3 (G := G.dn) C.gather C.names (R.good (f := 50) (by decide) (by decide)) (by first | exact dl hd | exact dl0 hd | (show 52 ≤ G.d - 1; first | (first | lia | omega) | (first | lia | omega)))) (b8 (a8 0 rfl (v0 _ _)) b9)) (d6 ⟨rfl,
  I8 (ae2 (G := G.dn) C.need_free C.sys hX (by exact bt1 h1) (by first | exact dl hd | exact dl0 hd | (show 0 < G.d - 1; first | (first | lia | omega) | (first | lia | omega))) (av2 hn)) (b8 (a8 3 rfl) (b8 (a8 4 rfl) b9))⟩))))
end
theorem aS9 {b o : List Nat} {rs : List Rw} : g0 b o rs = [] ↔ B8 b rs = [] := List.map_eq_nil_iff
end
inductive Tx : V → Bool → Prop
 | str (w : List Nat) : w.length ≤ 1000 → Tx (.str w) (E1 w)
 | none : Tx .none false
 | int (i : Int) : Tx (.int i) false
theorem Tx.ok {x : V} {b : Bool} (h : Tx x b) : x.ok = true := by cases h <;> rfl
theorem Tx.name {x : V} (h : Tx x true) : ∃ w : List Nat, x = .str w ∧ w.length ≤ 40 ∧ E1 w = true := by
 generalize hb : true = b at h
 cases h with
 | str w hw =>
  have h2 := hb.symm
  unfold E1 at h2
  rw [Bool.and_eq_true, decide_eq_true_eq] at h2
  exact ⟨w, rfl, h2.1, rfl⟩
 | none => cases hb
 | int i => cases hb
structure CM (G : Gl) (C N : Addr) (mN : Str → Option Value) (fm : Str → Addr) : Prop where
 p : CP G
 w : CW G
 need_name : aF6 G
 most : ∃ t, G.mg "MOST_NAMES" = some (.int 100 t)
 t : TrC G C N mN
 become : Mth G mN "become" (fm "become") U5 2 U6
 need_under : Mth G mN "need_under" (fm "need_under") L7 2 L9
 need_short : Mth G mN "need_short" (fm "need_short") L8 3 M0
 keep : Mth G mN "keep" (fm "keep") H6 3 H8
 drop : Mth G mN "drop" (fm "drop") H7 2 H9
 prune : Mth G mN "prune" (fm "prune") F6 2 F7
 move : Mth G mN "move" (fm "move") B5 3 B6
 graft : Mth G mN "graft" (fm "graft") y8 3 y9
 back : Mth G mN "back" (fm "back") R5 1 R6
 told : Mth G mN "told" (fm "told") aw7 2 ax2
 tree : Mth G mN "tree" (fm "tree") aw6 1 ax1
 size : Mth G mN "size" (fm "size") aw8 1 ax3
theorem TrC.dn {G : Gl} {C N : Addr} {mN : Str → Option Value} (T : TrC G C N mN) : TrC G.dn C N mN := ⟨T.1, T.2, T.3, T.4, T.5, T.6, T.7⟩
theorem Mth.dn {G : Gl} {mN : Str → Option Value} {m : Str} {f : Addr} {K : Sx} {np : Nat} {B : List Stmt} (M : Mth G mN m f K np B) : Mth G.dn mN m f K np B := ⟨M.1, M.2, M.3, M.4, M.5, M.6⟩
theorem CM.dn {G : Gl} {C N : Addr} {mN : Str → Option Value} {fm : Str → Addr} (M : CM G C N mN fm) : CM G.dn C N mN fm := ⟨M.p.dn, M.w.dn, M.need_name, M.most, M.t.dn, M.become.dn, M.need_under.dn, M.need_short.dn, M.keep.dn, M.drop.dn, M.prune.dn, M.move.dn, M.graft.dn, M.back.dn, M.told.dn, M.tree.dn, M.size.dn⟩
theorem aM5 {f : Nat} {rs : List Rw} {F : Fz} {v : Value} (r : Rel F (e8 f rs) v) : ∀ i, v ≠ .builtin i := by
 match f, rs, r with
 | 0, _, r => cases show v = .none from r; nofun
 | _ + 1, [], r => cases show v = .none from r; nofun
 | _ + 1, [_], r => obtain ⟨a, _, rfl, _⟩ := r; nofun
 | _ + 1, _ :: _ :: _, r => obtain ⟨a, _, rfl, _⟩ := r; nofun
section
variable {G : Gl} {C N dx b X : Addr} {mN : Str → Option Value} {fm : Str → Addr} {x y : V} {ok : Bool} {rs : List Rw} {ps : List V}
theorem aP6 (W : CW G) (h : Tx x ok) (hd : 2 ≤ G.d) : Pure G "is_name" [x] (.bool ok) := by
 cases h with
 | str w hw => exact aU3 W hw hd
 | none => exact l7 W.is_name rfl (by exact aE2 hd) (f8 (v1 (I1 (c := false) (D7 (z8 (y3 10 ae8 (a8 0 rfl)))) fun h => nomatch h)) (fun _ => g8 y7 (.id _)) fun h => nomatch h)
 | int i => exact l7 W.is_name rfl (by exact aE2 hd) (f8 (v1 (I1 (c := false) (D7 (z8 (y3 10 X6 (a8 0 rfl)))) fun h => nomatch h)) (fun _ => g8 y7 (.id _)) fun h => nomatch h)
theorem j0 (M : CM G C N mN fm) (h : Tx x true) (hd : 3 ≤ G.d) : Pure G "need_name" [x] .none :=
 l7 M.need_name rfl (by exact bE2 hd) (f8 (D7 (z8 (d7 (aP6 (G := G.dn) M.w.dn h (by show 2 ≤ G.d - 1; exact bt8 hd)) (b8 (a8 0 rfl h.ok) b9)))) (fun h => nomatch h) fun _ => d6 (d6 (by exact rfl)))
theorem C4 (M : CM G C N mN fm) (hX : XC G "NoName" X) (h : Tx x false) (hd : 3 ≤ G.d) : Rz G "need_name" [x] X :=
 az3 M.need_name rfl (by exact bE2 hd) (Y4 (D7 (z8 (d7 (aP6 (G := G.dn) M.w.dn h (by show 2 ≤ G.d - 1; exact bt8 hd)) (b8 (a8 0 rfl h.ok) b9)))) (fun _ => J4 hX) fun h => nomatch h)
section
variable {K : Sx} {ρ : List V} {σ : Ow} {e a1 : PySem.Expr} {w : Bool} {ap p : Pos}
theorem ah4 (M : CM G C N mN fm) (R : Rows rs) (hσ : σ dx = some (.tr w (e8 50 rs) b)) (h1 : Ev G K ρ σ e (C3 C dx)) (hd : 60 ≤ G.d)
  (hn : ∀ n env t, attributeBase e n env t = t := by intros; rfl) (hl : (ap.endLine == p.line) = true := by rfl) : Ev G K ρ σ (.Call (.Attribute e "size" ap) [] [] p) (.int rs.length) := by
 have hnum := R.num
 refine ah5 M.t M.size hσ h1 b9 rfl (by exact bi7 hd) (g8 ((A6 (d7 (R3 (G := G.dn) M.p.gather M.p.names (R.good (f := 50) (by decide) (by decide)) (by show 52 ≤ G.d - 1; exact bi6 hd)) (b8 (w5 M.t.dn (Ow.put_self ..) (a8 0 rfl)) b9)) (by rw [List.length_map]; exact bE1 hnum)).to ?_) (.id _)) hn hl
 rw [List.length_map]
theorem bf2 (M : CM G C N mN fm) (R : Rows rs) (hσ : σ dx = some (.tr w (e8 50 rs) b)) (h1 : Ev G K ρ σ e (C3 C dx)) {t : List Nat} (h2 : Ev G K ρ σ a1 (.str t)) (ht : E1 t = true) (hd : 70 ≤ G.d)
  (hn : ∀ n env t, attributeBase e n env t = t := by intros; rfl) (hl : (ap.endLine == p.line) = true := by rfl) (hs : [a1].all f0 = true := by rfl) : Ev G K ρ σ (.Call (.Attribute e "told" ap) [a1] [] p) (.lst ((d9 t rs).map l9)) := by
 have h40 : t.length ≤ 40 := by unfold E1 at ht; rw [Bool.and_eq_true, decide_eq_true_eq] at ht; exact ht.1
 have hT : Tx (.str t) true := ht ▸ Tx.str t (by exact M4 h40)
 exact ah5 M.t M.told hσ h1 (b8 h2 b9) rfl (by exact aL1 hd) (n9 (d7 (j0 M.dn hT (by show 3 ≤ G.d - 1; exact bK4 hd)) (b8 (a8 1 rfl) b9)) (g8 (d7 (New.pure (ab0 M.p.dn R h40 (by show 60 ≤ G.d - 1; exact bt7 hd))) (b8 (w5 M.t.dn (Ow.put_self ..) (a8 0 rfl)) (b8 (a8 1 rfl) b9))) (.id _))) hn hl hs
end
theorem bh5 (M : CM G C N mN fm) (hne : dx ≠ b) {k : V} (hy : ∀ F v, Rel F y v → ∀ i, v ≠ .builtin i) (hyo : y.ok = true) (hps : ps.length ≤ 1000) : WS G U5 U6 [C3 C dx, y] (σT σ0 dx b k ps) (trQ dx b fun x k' ps' => x = .none ∧ k' = y ∧ ps' = ps ++ [k]) := by
 refine B0 (aa3 M.t (s8 hne) (a8 0 rfl)) G1 (w5 M.t (s8 hne) (a8 0 rfl)) (by rw [C5]; exact aE1 hps) (aZ2 M.t ((Ow.set_ne _ _ hne).trans (s8 hne)) (a8 1 rfl hyo) hy (a8 0 rfl) (d6 ⟨y, ps ++ [k], Ow.put_self .., (Ow.put_ne _ _ hne.symm).trans (Ow.set_self ..), rfl, rfl, rfl⟩))
theorem O1 {K : Sx} {ρ : List V} {ss : List Stmt} {Q : KS} {e : PySem.Expr} {n : Str} {ap p pe q : Pos} (M : CM G C N mN fm) (hne : dx ≠ b) {f f' : Nat} {rs' : List Rw} (h1 : Ev G K ρ (σT σ0 dx b (e8 f rs) ps) (.Name n q) (C3 C dx)) (h2 : Ev G K ρ (σT σ0 dx b (e8 f rs) ps) e (e8 f' rs')) (hps : ps.length ≤ 1000) (hd : 0 < G.d)
  (h : WS G K ss ρ (σT (σT σ0 dx b (e8 f rs) ps) dx b (e8 f' rs') (ps ++ [e8 f rs])) Q) (hl : (ap.endLine == p.line) = true := by rfl) (hs : [e].all f0 = true := by rfl) : WS G K (.Expr (.Call (.Attribute (.Name n q) "become" ap) [e] [] p) pe :: ss) ρ (σT σ0 dx b (e8 f rs) ps) Q := by
 refine Y3 (F4 M.t M.become (s8 hne) G1 hne h1 (b8 h2 b9) rfl hd (bh5 M.dn hne (fun _ _ => aM5) (v0 _ _) hps) (by intros; rfl) hl hs) ?_
 rintro x σ' ⟨k', ps', ⟨_, rfl, rfl⟩, rfl⟩
 exact h
end
theorem Tr.to {G : Gl} {K : Sx} {ρ : List V} {σ : Ow} {e : PySem.Expr} {b c : Bool} (h : Tr G K ρ σ e b) (hb : b = c) : Tr G K ρ σ e c := hb ▸ h
theorem V7 (n : List Nat) (rs : List Rw) : (s6 n rs).ok = true := by unfold s6; split <;> rfl
theorem V6 (n : List Nat) (rs : List Rw) : (s6 n rs = .none ∧ ∀ r ∈ rs, r.1 ≠ n) ∨ ((∃ v, s6 n rs = .int v) ∧ ∃ r ∈ rs, r.1 = n) := by
 unfold s6
 cases h : rs.find? (fun r => r.1 == n) with
 | none => exact .inl ⟨rfl, fun r hr e => absurd (beq_iff_eq.mpr e) (by simpa using List.find?_eq_none.mp h r hr)⟩
 | some r => exact .inr ⟨⟨_, rfl⟩, r, List.mem_of_find?_eq_some h, eq_of_beq (List.find?_some (p := fun r : Rw => r.1 == n) h)⟩
section
variable {G : Gl} {C N dx b X : Addr} {mN : Str → Option Value} {fm : Str → Addr} {x y : V} {ok : Bool} {rs : List Rw} {ps : List V} {n : List Nat} {v : Int}
noncomputable abbrev σR (dx b : Addr) (k : V) : Ow := σ0.put dx (.tr false k b)
theorem D8 {k : V} : σR dx b k dx = some (.tr false k b) := Ow.put_self ..
theorem bf9 (M : CM G C N mN fm) (R : Rows rs) {K : Sx} {ρ : List V} {σ : Ow} {w : Bool} {e₁ : PySem.Expr} {nm : Str} {p₁ p₂ p₃ p₄ p₅ p₆ p₇ p₈ : Pos} {c₁ : Nat} (hσ : σ dx = some (.tr w (e8 50 rs) b)) (h1 : Ev G K ρ σ e₁ (s6 n rs)) (h2 : Ev G K ρ σ (.Name nm p₁) (C3 C dx)) (hd : 60 ≤ G.d) (hm : (p₂.endLine == p₃.line) = true := by rfl) (hg : j8 K "MOST_NAMES" = true := by decide +kernel) :
  Tr G K ρ σ (.BoolOp .And [.Compare e₁ [.Is] [.Constant .none c₁ p₄] p₅, .Compare (.Call (.Attribute (.Name nm p₁) "size" p₂) [] [] p₃) [.GtE] [.Name "MOST_NAMES" p₆] p₇] p₈) (!(s6 n rs).nn && decide ((100 : Int) ≤ rs.length)) := by
 rcases V6 n rs with ⟨e, _⟩ | ⟨⟨u, e⟩, _⟩
 ·rw [e] at h1 ⊢
  exact v1 (y2 (d8 h1 o9 C9) fun _ => x6 (d8 (ah4 M R hσ h2 hd (by intros; rfl) hm) (N4 M.most hg) bI3))
 ·rw [e] at h1 ⊢
  exact v1 (y2 (b := false) (c := false) (d8 h1 o9 (B4 rfl)) nofun)
theorem aK4 (M : CM G C N mN fm) (hne : dx ≠ b) (R : Rows rs) (hn : E1 n = true) (hok : (!(s6 n rs).nn && decide ((100 : Int) ≤ rs.length)) = false) (hps : ps.length ≤ 1000) (hd : 70 ≤ G.d) :
  WS G H6 H8 [C3 C dx, .str n, .int v, .unb] (σT σ0 dx b (e8 50 rs) ps) (trQ dx b fun x k' ps' => x = s6 n rs ∧ k' = e8 50 (y4 (k8 n rs ++ [(n, v)])) ∧ ps' = ps ++ [e8 50 rs]) := by
 have h40 : n.length ≤ 40 := by unfold E1 at hn; rw [Bool.and_eq_true, decide_eq_true_eq] at hn; exact hn.1
 have hT : Tx (.str n) true := hn ▸ Tx.str n (by exact M4 h40)
 refine n9 (d7 (j0 M hT (by exact bs9 hd)) (b8 (a8 1 rfl) b9)) (i8 3 (d7 (W0 M.p.rest M.p.branch_at M.p.found (R.good (f := 50) (by decide) (by decide)) (n := n) (by exact M4 h40) (by exact bs8 hd)) (b8 (w5 M.t (s8 hne) (a8 0 rfl)) (b8 (a8 1 rfl) b9))) ?_)
 refine f8 (Tr.to (bf9 M R (s8 hne) (a8 3 rfl (V7 ..)) (a8 0 rfl) (by exact aV0 hd)) hok) nT fun _ => d6 ?_
 exact O1 M hne (a8 0 rfl) (d7 (bI4 M.p R h40 (by exact aV0 hd)) (b8 (w5 M.t (s8 hne) (a8 0 rfl)) (b8 (a8 1 rfl) (b8 (a8 2 rfl) b9)))) hps (by exact aL1 hd) (g8 (a8 3 rfl (V7 ..)) ⟨_, _, s8 hne, G1, rfl, rfl, rfl⟩)
theorem bk7 (M : CM G C N mN fm) (hX : XC G "NoName" X) {k : V} (h : Tx x false) (hd : 3 ≤ G.d) : WR G H6 H8 [C3 C dx, x, .int v, .unb] (σR dx b k) X :=
 I8 (C4 M hX h hd) (b8 (a8 1 rfl h.ok) b9)
theorem bk6 (M : CM G C N mN fm) (hX : XC G "TooMany" X) (R : Rows rs) (hn : E1 n = true) (hok : (!(s6 n rs).nn && decide ((100 : Int) ≤ rs.length)) = true) (hd : 70 ≤ G.d) : WR G H6 H8 [C3 C dx, .str n, .int v, .unb] (σR dx b (e8 50 rs)) X := by
 have h40 : n.length ≤ 40 := by unfold E1 at hn; rw [Bool.and_eq_true, decide_eq_true_eq] at hn; exact hn.1
 have hT : Tx (.str n) true := hn ▸ Tx.str n (by exact M4 h40)
 exact G0 [_, _] (n9 (d7 (j0 M hT (by exact bs9 hd)) (b8 (a8 1 rfl) b9)) (i8 3 (d7 (W0 M.p.rest M.p.branch_at M.p.found (R.good (f := 50) (by decide) (by decide)) (n := n) (by exact M4 h40) (by exact bs8 hd)) (b8 (w5 M.t D8 (a8 0 rfl)) (b8 (a8 1 rfl) b9))) (d6 ⟨rfl, Y4 (Tr.to (bf9 M R D8 (a8 3 rfl (V7 ..)) (a8 0 rfl) (by exact aV0 hd)) hok) (fun _ => J4 hX) nF⟩)))
theorem bC6 (M : CM G C N mN fm) (hne : dx ≠ b) (R : Rows rs) (hn : E1 n = true) (h : ∃ r ∈ rs, r.1 = n) (hps : ps.length ≤ 1000) (hd : 70 ≤ G.d) :
  WS G H7 H9 [C3 C dx, .str n, .unb] (σT σ0 dx b (e8 50 rs) ps) (trQ dx b fun x k' ps' => x = s6 n rs ∧ k' = e8 50 (k8 n rs) ∧ ps' = ps ++ [e8 50 rs]) := by
 have h40 : n.length ≤ 40 := by unfold E1 at hn; rw [Bool.and_eq_true, decide_eq_true_eq] at hn; exact hn.1
 have hT : Tx (.str n) true := hn ▸ Tx.str n (by exact M4 h40)
 refine n9 (d7 (j0 M hT (by exact bs9 hd)) (b8 (a8 1 rfl) b9)) (i8 2 (d7 (W0 M.p.rest M.p.branch_at M.p.found (R.good (f := 50) (by decide) (by decide)) (n := n) (by exact M4 h40) (by exact bs8 hd)) (b8 (w5 M.t (s8 hne) (a8 0 rfl)) (b8 (a8 1 rfl) b9))) ?_)
 exact O1 M hne (a8 0 rfl) (d7 (aT9 M.p R h40 (by exact aV0 hd) h) (b8 (w5 M.t (s8 hne) (a8 0 rfl)) (b8 (a8 1 rfl) b9))) hps (by exact aL1 hd) (g8 (a8 2 rfl (V7 ..)) ⟨_, _, s8 hne, G1, rfl, rfl, rfl⟩)
theorem bk9 (M : CM G C N mN fm) (hX : XC G "NoName" X) {k : V} (h : Tx x false) (hd : 3 ≤ G.d) : WR G H7 H9 [C3 C dx, x, .unb] (σR dx b k) X :=
 I8 (C4 M hX h hd) (b8 (a8 1 rfl h.ok) b9)
theorem bk8 (M : CM G C N mN fm) (hX : XC G "NotThere" X) (R : Rows rs) (hn : E1 n = true) (h : ∀ r ∈ rs, r.1 ≠ n) (hd : 70 ≤ G.d) : WR G H7 H9 [C3 C dx, .str n, .unb] (σR dx b (e8 50 rs)) X := by
 have h40 : n.length ≤ 40 := by unfold E1 at hn; rw [Bool.and_eq_true, decide_eq_true_eq] at hn; exact hn.1
 have hT : Tx (.str n) true := hn ▸ Tx.str n (by exact M4 h40)
 exact G0 [_, _] (n9 (d7 (j0 M hT (by exact bs9 hd)) (b8 (a8 1 rfl) b9)) (i8 2 (d7 (W0 M.p.rest M.p.branch_at M.p.found (R.good (f := 50) (by decide) (by decide)) (n := n) (by exact M4 h40) (by exact bs8 hd)) (b8 (w5 M.t D8 (a8 0 rfl)) (b8 (a8 1 rfl) b9))) (d6 ⟨rfl, ae3 M.t M.become D8 (a8 0 rfl) (aQ2 M.p hX R h40 (by exact aV0 hd) h) (b8 (w5 M.t D8 (a8 0 rfl)) (b8 (a8 1 rfl) b9))⟩)))
theorem A3 (M : CM G C N mN fm) (R : Rows rs) {K : Sx} {ρ : List V} {σ : Ow} {w : Bool} {e a1 : PySem.Expr} {ap p : Pos} (hσ : σ dx = some (.tr w (e8 50 rs) b)) (h1 : Ev G K ρ σ e (C3 C dx)) (h2 : Ev G K ρ σ a1 (.str n)) (h40 : n.length ≤ 40) (h : d9 n rs ≠ []) (hd : 70 ≤ G.d)
  (hn : ∀ n env t, attributeBase e n env t = t := by intros; rfl) (hl : (ap.endLine == p.line) = true := by rfl) (hs : [a1].all f0 = true := by rfl) : Ev G K ρ σ (.Call (.Attribute e "need_under" ap) [a1] [] p) (.int (d9 n rs).length) := by
 have hp : 0 < (d9 n rs).length := List.length_pos_iff.mpr h
 refine ah5 M.t M.need_under hσ h1 (b8 h2 b9) rfl (by exact aL1 hd) (i8 2 ((d7 (bg5 M.p.dn R h40 (by show 61 ≤ G.d - 1; exact bO9 hd)) (b8 (w5 M.t.dn (Ow.put_self ..) (a8 0 rfl)) (b8 (a8 1 rfl) b9))).to (by rw [List.length_map])) (f8 (b := false) (Tr.to (d8 (a8 2 rfl) c9 m7) ?_) nT fun _ => d6 (g8 (a8 2 rfl) (.id _)))) hn hl hs
 exact beq_eq_false_iff_ne.mpr (by exact fun q => (fun u1 => (f'1 _ (.k 1 (.add w9 k9) c8 (.k 1 c8 w9 .o)) tt hp (Nat.le_of_eq u1))) (Int.ofNat_inj.mp q))
theorem P4 (M : CM G C N mN fm) (hX : XC G "NotThere" X) (R : Rows rs) (h40 : n.length ≤ 40) (h : d9 n rs = []) (hd : 70 ≤ G.d) : WR G L7 L9 [C3 C dx, .str n, .unb] (σR dx b (e8 50 rs)) X := by
 refine ai3 (i8 2 ((d7 (bg5 M.p R h40 (by exact o5 _ (.k 1 (.num 70) c8 .o) (.num 61) c8 tt hd)) (b8 (w5 M.t D8 (a8 0 rfl)) (b8 (a8 1 rfl) b9))).to (by rw [h])) (d6 ⟨rfl, Y4 (b := true) (d8 (a8 2 rfl) c9 m7) (fun _ => J4 hX) nF⟩))
theorem bs6 (M : CM G C N mN fm) (hne : dx ≠ b) (R : Rows rs) (hn : E1 n = true) (h : d9 n rs ≠ []) (hps : ps.length ≤ 1000) (hd : 80 ≤ G.d) :
  WS G F6 F7 [C3 C dx, .str n, .unb] (σT σ0 dx b (e8 50 rs) ps) (trQ dx b fun x k' ps' => x = .int (d9 n rs).length ∧ k' = e8 50 (x8 n rs) ∧ ps' = ps ++ [e8 50 rs]) := by
 have h40 : n.length ≤ 40 := by unfold E1 at hn; rw [Bool.and_eq_true, decide_eq_true_eq] at hn; exact hn.1
 have hT : Tx (.str n) true := hn ▸ Tx.str n (by exact M4 h40)
 refine n9 (d7 (j0 M hT (by exact o5 _ (.k 1 (.num 80) c8 .o) R4 c8 tt hd)) (b8 (a8 1 rfl) b9)) (i8 2 (A3 M R (s8 hne) (a8 0 rfl) (a8 1 rfl) h40 h (by exact o5 _ (.k 1 (.num 80) c8 .o) (.num 70) c8 tt hd)) ?_)
 exact O1 M hne (a8 0 rfl) (o6 (d7 (bI5 M.p R h40 (by exact o5 _ (.k 1 (.num 80) c8 .o) (.num 70) c8 tt hd)) (b8 (w5 M.t (s8 hne) (a8 0 rfl)) (b8 (a8 1 rfl) b9))) c9 (by decide) (by decide) rfl) hps (by exact o5 _ (.k 1 (.num 80) c8 .o) (.add w9 k9) c8 tt hd) (g8 (a8 2 rfl) ⟨_, _, s8 hne, G1, rfl, rfl, rfl⟩)
theorem aX8 (M : CM G C N mN fm) (hX : XC G "NoName" X) {k : V} (h : Tx x false) (hd : 3 ≤ G.d) : WR G F6 F7 [C3 C dx, x, .unb] (σR dx b k) X :=
 I8 (C4 M hX h hd) (b8 (a8 1 rfl h.ok) b9)
theorem aX7 (M : CM G C N mN fm) (hX : XC G "NotThere" X) (R : Rows rs) (hn : E1 n = true) (h : d9 n rs = []) (hd : 80 ≤ G.d) : WR G F6 F7 [C3 C dx, .str n, .unb] (σR dx b (e8 50 rs)) X := by
 have h40 : n.length ≤ 40 := by unfold E1 at hn; rw [Bool.and_eq_true, decide_eq_true_eq] at hn; exact hn.1
 have hT : Tx (.str n) true := hn ▸ Tx.str n (by exact M4 h40)
 exact ai3 (n9 (d7 (j0 M hT (by exact o5 _ (.k 1 (.num 80) c8 .o) R4 c8 tt hd)) (b8 (a8 1 rfl) b9)) (d6 ⟨rfl, S8 M.t M.need_under D8 (a8 0 rfl) (b8 (a8 1 rfl) b9) rfl (by exact o5 _ (.k 1 (.num 80) c8 .o) (.add w9 k9) c8 tt hd) (P4 M.dn hX R h40 h (by show 70 ≤ G.d - 1; exact bO7 hd))⟩))
end
theorem ay5 : ∀ (f g : Nat) {rs : List Rw}, Good f rs → Good g rs → e8 f rs = e8 g rs
 | 0, g, rs, hf, _ => by rw [hf.zero, I2, I2]
 | f + 1, 0, rs, _, hg => by rw [hg.zero, I2, I2]
 | f + 1, g + 1, [], _, _ => rfl
 | f + 1, g + 1, [_], _, _ => rfl
 | f + 1, g + 1, a :: b :: rs, hf, hg => by
  have h2 : 2 ≤ (a :: b :: rs).length := by simp
  have e : ∀ x ∈ s5 (r9 (a :: b :: rs)) (a :: b :: rs), V.tup [.str x.1, e8 f (x.2.map (K4 (r9 (a :: b :: rs))))] = V.tup [.str x.1, e8 g (x.2.map (K4 (r9 (a :: b :: rs))))] := fun x hx => by rw [ay5 f g (hf.group h2 hx) (hg.group h2 hx)]
  show V.tup [_, _, .tup _] = V.tup [_, _, .tup _]
  rw [List.map_congr_left e]
theorem am2 {α : Type} {P : α → Prop} : ∀ {l : List α}, (∃ x ∈ l, P x) → ∃ (i : Nat) (x : α), l[i]? = some x ∧ P x ∧ ∀ (j : Nat) (y : α), j < i → l[j]? = some y → ¬ P y
 | [], h => by obtain ⟨x, hx, _⟩ := h; cases hx
 | a :: l, h => by
  by_cases ha : P a
  ·exact ⟨0, a, rfl, ha, fun j y hj => absurd hj (Nat.not_lt_zero j)⟩
  ·obtain ⟨x, hx, hp⟩ := h
   have : ∃ x ∈ l, P x := by
    rcases List.mem_cons.mp hx with rfl | h
    ·exact absurd hp ha
    ·exact ⟨x, h, hp⟩
   obtain ⟨i, x, h1, h2, h3⟩ := am2 this
   refine ⟨i + 1, x, h1, h2, fun j y hj hy => ?_⟩
   cases j with
   | zero => cases hy; exact ha
   | succ j => exact h3 j y (by exact n8 _ _ (.k 1 (.add i9 k9) y0 .o) i9 d5 tt hj) hy
theorem I5 {n : List Nat} {rs : List Rw} : B8 n rs = [] ↔ d9 n rs = [] := List.map_eq_nil_iff
section
variable {G : Gl} {C N dx b X : Addr} {mN : Str → Option Value} {fm : Str → Addr} {x y : V} {ok : Bool} {rs : List Rw} {ps : List V} {n o : List Nat} {v : Int}
theorem o0 {n : List Nat} (hn : E1 n = true) : n.length ≤ 40 := by unfold E1 at hn; rw [Bool.and_eq_true, decide_eq_true_eq] at hn; exact hn.1
theorem C1 {n : List Nat} (hn : E1 n = true) : Tx (.str n) true := hn ▸ Tx.str n (by have := o0 hn; exact M4 this)
abbrev z5 (n o : List Nat) (r : Rw) : Prop := (40 : Int) < (r.1.length : Int) - n.length + o.length
theorem ad8 (R : Rows rs) : ∀ r ∈ d9 n rs, r.1.length ≤ 40 := fun r hr => R.len r (List.mem_filter.mp hr).1
theorem aJ6 (M : CM G C N mN fm) {K : Sx} {ρ : List V} {σ : Ow} {e₁ e₂ e₃ : PySem.Expr} {p₁ p₂ p₃ p₄ p₅ p₆ p₇ p₈ p₉ p₀ : Pos} {r : Rw} (h1 : Ev G K ρ σ e₁ (.str r.1)) (h2 : Ev G K ρ σ e₂ (.str n)) (h3 : Ev G K ρ σ e₃ (.str o)) (l1 : r.1.length ≤ 40) (l2 : n.length ≤ 40) (l3 : o.length ≤ 40) (hs : [e₁, e₂, e₃].all f0 = true := by rfl) (hg : j8 K "len" = true := by decide +kernel) (hg2 : j8 K "MOST_SIGNS" = true := by decide +kernel) :
  Tr G K ρ σ (.Compare (.BinOp (.BinOp (.Call (.Name "len" p₁) [e₁] [] p₂) .Sub (.Call (.Name "len" p₃) [e₂] [] p₄) p₅) .Add (.Call (.Name "len" p₆) [e₃] [] p₇) p₈) [.Gt] [.Name "MOST_SIGNS" p₉] p₀) (decide ((40 : Int) < (r.1.length : Int) - n.length + o.length)) := by
 simp only [List.all_cons, List.all_nil, Bool.and_true, Bool.and_eq_true] at hs
 exact d8 (H5 (aJ2 (B9 h1 (by exact aw5 l1) hs.1 hg) (B9 h2 (by exact aw5 l2) hs.2.1 hg)) (B9 h3 (by exact aw5 l3) hs.2.2 hg)) (N4 M.w.most hg2) P1
theorem F5 (M : CM G C N mN fm) (R : Rows rs) {K : Sx} {ρ : List V} {σ : Ow} {w : Bool} {e a1 a2 : PySem.Expr} {ap p : Pos} (hσ : σ dx = some (.tr w (e8 50 rs) b)) (h1 : Ev G K ρ σ e (C3 C dx)) (h2 : Ev G K ρ σ a1 (.str n)) (h3 : Ev G K ρ σ a2 (.str o)) (l2 : n.length ≤ 40) (l3 : o.length ≤ 40) (h : ∀ r ∈ d9 n rs, ¬ z5 n o r) (hd : 70 ≤ G.d)
  (hn : ∀ n env t, attributeBase e n env t = t := by intros; rfl) (hl : (ap.endLine == p.line) = true := by rfl) (hs : [a1, a2].all f0 = true := by rfl) : Ev G K ρ σ (.Call (.Attribute e "need_short" ap) [a1, a2] [] p) .none := by
 refine ah5 M.t M.need_short hσ h1 (b8 h2 (b8 h3 b9)) rfl (by exact aL1 hd) (D6 (xs := (d9 n rs).map l9) (fun i ρ σ => σ = σR dx b (e8 50 rs) ∧ ∃ u v, ρ = [C3 C dx, .str n, .str o, u, v]) (d7 (New.pure (ab0 M.p.dn R l2 (by show 60 ≤ G.d - 1; exact bt7 hd))) (b8 (w5 M.t.dn (Ow.put_self ..) (a8 0 rfl)) (b8 (a8 1 rfl) b9))) rfl ⟨rfl, _, _, rfl⟩ ?_ ?_) hn hl hs
 ·rintro i ρ σ z hz ⟨rfl, u, v, rfl⟩
  rw [List.getElem?_map] at hz
  obtain ⟨r, hr, rfl⟩ := Option.map_eq_some_iff.mp hz
  have hm := List.mem_of_getElem? hr
  exact ⟨_, D4 3 4, f8 (Tr.to (aJ6 M.dn (r := r) (a8 3 rfl) (a8 1 rfl) (a8 2 rfl) (ad8 R r hm) l2 l3) (decide_eq_false (h r hm))) nT fun _ => d6 (d6 ⟨rfl, _, _, rfl⟩)⟩
 ·rintro ρ σ ⟨rfl, u, v, rfl⟩
  exact d6 (by exact rfl)
theorem Y1 (M : CM G C N mN fm) (hX : XC G "TooLong" X) (R : Rows rs) (l2 : n.length ≤ 40) (l3 : o.length ≤ 40) (h : ∃ r ∈ d9 n rs, z5 n o r) (hd : 70 ≤ G.d) : WR G L8 M0 [C3 C dx, .str n, .str o, .unb, .unb] (σR dx b (e8 50 rs)) X := by
 obtain ⟨j, r, hj, hp, hfirst⟩ := am2 h
 have hjl := (List.getElem?_eq_some_iff.mp hj).1
 refine aZ4 (xs := (d9 n rs).map l9) (fun i ρ σ => σ = σR dx b (e8 50 rs) ∧ ∃ u v, ρ = [C3 C dx, .str n, .str o, u, v]) j (by rw [List.length_map]; exact hjl) (d7 (New.pure (ab0 M.p R l2 (by exact aV0 hd))) (b8 (w5 M.t (Ow.put_self ..) (a8 0 rfl)) (b8 (a8 1 rfl) b9))) rfl ⟨rfl, _, _, rfl⟩ ?_ ?_
 ·rintro i ρ σ z hi hz ⟨rfl, u, v, rfl⟩
  rw [List.getElem?_map] at hz
  obtain ⟨q, hq, rfl⟩ := Option.map_eq_some_iff.mp hz
  exact ⟨_, D4 3 4, f8 (Tr.to (aJ6 M (r := q) (a8 3 rfl) (a8 1 rfl) (a8 2 rfl) (ad8 R q (List.mem_of_getElem? hq)) l2 l3) (decide_eq_false (hfirst i q hi hq))) nT fun _ => d6 (d6 ⟨rfl, _, _, rfl⟩)⟩
 ·rintro ρ σ z hz ⟨rfl, u, v, rfl⟩
  rw [List.getElem?_map, hj] at hz
  cases hz
  exact ⟨_, D4 3 4, Y4 (Tr.to (aJ6 M (r := r) (a8 3 rfl) (a8 1 rfl) (a8 2 rfl) (ad8 R r (List.mem_of_getElem? hj)) l2 l3) (decide_eq_true hp)) (fun _ => J4 hX) nF⟩
theorem bC5 (M : CM G C N mN fm) (hne : dx ≠ b) (R : Rows rs) (hn : E1 n = true) (ho : E1 o = true) (h : d9 n rs ≠ []) (hs : ∀ r ∈ d9 n rs, ¬ z5 n o r) (hh : M3 (x8 n rs) (g0 n o rs) = false) (hps : ps.length ≤ 1000) (hd : 120 ≤ G.d) :
  WS G B5 B6 [C3 C dx, .str n, .str o, .unb] (σT σ0 dx b (e8 50 rs) ps) (trQ dx b fun x k' ps' => x = .int (d9 n rs).length ∧ k' = e8 100 (y4 (x8 n rs ++ g0 n o rs)) ∧ ps' = ps ++ [e8 50 rs]) := by
 refine n9 (d7 (j0 M (C1 hn) (by exact S7 hd)) (b8 (a8 1 rfl) b9)) (n9 (d7 (j0 M (C1 ho) (by exact S7 hd)) (b8 (a8 2 rfl) b9)) (i8 3 (A3 M R (s8 hne) (a8 0 rfl) (a8 1 rfl) (o0 hn) h (by exact ag3 hd)) (n9 (F5 M R (s8 hne) (a8 0 rfl) (a8 1 rfl) (a8 2 rfl) (o0 hn) (o0 ho) hs (by exact ag3 hd)) ?_)))
 exact O1 M hne (a8 0 rfl) (d7 (br8 M.p R (o0 hn) (o0 ho) (by exact bi1 hd) (fun e => h (I5.mp e)) hh) (b8 (w5 M.t (s8 hne) (a8 0 rfl)) (b8 (a8 1 rfl) (b8 (a8 2 rfl) b9)))) hps (by exact aU9 hd) (g8 (a8 3 rfl) ⟨_, _, s8 hne, G1, rfl, rfl, rfl⟩)
theorem bk5 (M : CM G C N mN fm) (hX : XC G "NoName" X) {k : V} (h : Tx x false) (hy : y.ok = true) (hd : 3 ≤ G.d) : WR G B5 B6 [C3 C dx, x, y, .unb] (σR dx b k) X :=
 I8 (C4 M hX h hd) (b8 (a8 1 rfl h.ok) b9)
theorem bk4 (M : CM G C N mN fm) (hX : XC G "NoName" X) {k : V} (hn : E1 n = true) (h : Tx y false) (hd : 3 ≤ G.d) : WR G B5 B6 [C3 C dx, .str n, y, .unb] (σR dx b k) X :=
 ai3 (n9 (d7 (j0 M (C1 hn) hd) (b8 (a8 1 rfl) b9)) (d6 ⟨rfl, I8 (C4 M hX h hd) (b8 (a8 2 rfl h.ok) b9)⟩))
theorem bk3 (M : CM G C N mN fm) (hX : XC G "NotThere" X) (R : Rows rs) (hn : E1 n = true) (ho : E1 o = true) (h : d9 n rs = []) (hd : 120 ≤ G.d) : WR G B5 B6 [C3 C dx, .str n, .str o, .unb] (σR dx b (e8 50 rs)) X :=
 G0 [_, _] (n9 (d7 (j0 M (C1 hn) (by exact S7 hd)) (b8 (a8 1 rfl) b9)) (n9 (d7 (j0 M (C1 ho) (by exact S7 hd)) (b8 (a8 2 rfl) b9)) (d6 ⟨rfl, S8 M.t M.need_under D8 (a8 0 rfl) (b8 (a8 1 rfl) b9) rfl (by exact aU9 hd) (P4 M.dn hX R (o0 hn) h (by show 70 ≤ G.d - 1; exact bt0 hd))⟩)))
theorem bk2 (M : CM G C N mN fm) (hX : XC G "TooLong" X) (R : Rows rs) (hn : E1 n = true) (ho : E1 o = true) (h : d9 n rs ≠ []) (hl : ∃ r ∈ d9 n rs, z5 n o r) (hd : 120 ≤ G.d) : WR G B5 B6 [C3 C dx, .str n, .str o, .unb] (σR dx b (e8 50 rs)) X :=
 G0 [_, _, _] (n9 (d7 (j0 M (C1 hn) (by exact S7 hd)) (b8 (a8 1 rfl) b9)) (n9 (d7 (j0 M (C1 ho) (by exact S7 hd)) (b8 (a8 2 rfl) b9)) (i8 3 (A3 M R D8 (a8 0 rfl) (a8 1 rfl) (o0 hn) h (by exact ag3 hd)) (d6 ⟨rfl, aL9 M.t M.need_short D8 (a8 0 rfl) (b8 (a8 1 rfl) (b8 (a8 2 rfl) b9)) rfl (by exact aU9 hd) (Y1 M.dn hX R (o0 hn) (o0 ho) hl (by show 70 ≤ G.d - 1; exact bt0 hd))⟩))))
theorem bk1 (M : CM G C N mN fm) (hX : XC G "Taken" X) (R : Rows rs) (hn : E1 n = true) (ho : E1 o = true) (h : d9 n rs ≠ []) (hs : ∀ r ∈ d9 n rs, ¬ z5 n o r) (hh : M3 (x8 n rs) (g0 n o rs) = true) (hd : 120 ≤ G.d) : WR G B5 B6 [C3 C dx, .str n, .str o, .unb] (σR dx b (e8 50 rs)) X :=
 G0 [_, _, _, _] (n9 (d7 (j0 M (C1 hn) (by exact S7 hd)) (b8 (a8 1 rfl) b9)) (n9 (d7 (j0 M (C1 ho) (by exact S7 hd)) (b8 (a8 2 rfl) b9)) (i8 3 (A3 M R D8 (a8 0 rfl) (a8 1 rfl) (o0 hn) h (by exact ag3 hd)) (n9 (F5 M R D8 (a8 0 rfl) (a8 1 rfl) (a8 2 rfl) (o0 hn) (o0 ho) hs (by exact ag3 hd)) (d6 ⟨rfl, ae3 M.t M.become D8 (a8 0 rfl) (bm3 M.p hX R (o0 hn) (o0 ho) (by exact bi1 hd) (fun e => h (I5.mp e)) hh) (b8 (w5 M.t D8 (a8 0 rfl)) (b8 (a8 1 rfl) (b8 (a8 2 rfl) b9)))⟩)))))
end
section
variable {G : Gl} {C N dx b X : Addr} {mN : Str → Option Value} {fm : Str → Addr} {x y : V} {ok : Bool} {rs : List Rw} {ps : List V} {n o : List Nat} {v : Int}
theorem bg0 (M : CM G C N mN fm) (R : Rows rs) {K : Sx} {ρ : List V} {σ : Ow} {w : Bool} {e₂ : PySem.Expr} {nm : Str} {p₁ p₂ p₃ p₄ p₅ p₆ : Pos} {c : Nat} (hσ : σ dx = some (.tr w (e8 50 rs) b)) (h1 : Ev G K ρ σ (.Name nm p₁) (C3 C dx)) (h2 : Ev G K ρ σ e₂ (.int c)) (hd : 60 ≤ G.d) (hm : (p₂.endLine == p₃.line) = true := by rfl) (hg : j8 K "MOST_NAMES" = true := by decide +kernel) :
  Tr G K ρ σ (.Compare (.BinOp (.Call (.Attribute (.Name nm p₁) "size" p₂) [] [] p₃) .Add e₂ p₄) [.Gt] [.Name "MOST_NAMES" p₅] p₆) (decide ((100 : Int) < (rs.length : Int) + c)) :=
 d8 (H5 (ah4 M R hσ h1 hd (by intros; rfl) hm) h2) (N4 M.most hg) P1
theorem aP8 (M : CM G C N mN fm) (hne : dx ≠ b) (R : Rows rs) (hn : E1 n = true) (ho : E1 o = true) (h : d9 n rs ≠ []) (hs : ∀ r ∈ d9 n rs, ¬ z5 n o r) (hh : M3 rs (g0 n o rs) = false) (hf : ¬ (100 : Int) < (rs.length : Int) + (d9 n rs).length) (hps : ps.length ≤ 1000) (hd : 120 ≤ G.d) :
  WS G y8 y9 [C3 C dx, .str n, .str o, .unb, .unb] (σT σ0 dx b (e8 50 rs) ps) (trQ dx b fun x k' ps' => x = .int (d9 n rs).length ∧ k' = e8 100 (y4 (rs ++ g0 n o rs)) ∧ ps' = ps ++ [e8 50 rs]) := by
 refine n9 (d7 (j0 M (C1 hn) (by exact S7 hd)) (b8 (a8 1 rfl) b9)) (n9 (d7 (j0 M (C1 ho) (by exact S7 hd)) (b8 (a8 2 rfl) b9)) (i8 3 (A3 M R (s8 hne) (a8 0 rfl) (a8 1 rfl) (o0 hn) h (by exact ag3 hd)) (n9 (F5 M R (s8 hne) (a8 0 rfl) (a8 1 rfl) (a8 2 rfl) (o0 hn) (o0 ho) hs (by exact ag3 hd)) ?_)))
 refine i8 4 (d7 (aD5 M.p R (o0 hn) (o0 ho) (by exact bi1 hd) (fun e => h (I5.mp e)) hh) (b8 (w5 M.t (s8 hne) (a8 0 rfl)) (b8 (a8 1 rfl) (b8 (a8 2 rfl) b9)))) (f8 (Tr.to (bg0 M R (s8 hne) (a8 0 rfl) (a8 3 rfl) (by exact o5 _ (.k 1 (.num 120) c8 .o) (.num 60) c8 tt hd)) (decide_eq_false hf)) nT fun _ => d6 ?_)
 exact O1 M hne (a8 0 rfl) (a8 4 rfl (v0 _ _)) hps (by exact aU9 hd) (g8 (a8 3 rfl) ⟨_, _, s8 hne, G1, rfl, rfl, rfl⟩)
theorem aY4 (M : CM G C N mN fm) (hX : XC G "NoName" X) {k : V} (h : Tx x false) (hd : 3 ≤ G.d) : WR G y8 y9 [C3 C dx, x, y, .unb, .unb] (σR dx b k) X :=
 I8 (C4 M hX h hd) (b8 (a8 1 rfl h.ok) b9)
theorem aY3 (M : CM G C N mN fm) (hX : XC G "NoName" X) {k : V} (hn : E1 n = true) (h : Tx y false) (hd : 3 ≤ G.d) : WR G y8 y9 [C3 C dx, .str n, y, .unb, .unb] (σR dx b k) X :=
 ai3 (n9 (d7 (j0 M (C1 hn) hd) (b8 (a8 1 rfl) b9)) (d6 ⟨rfl, I8 (C4 M hX h hd) (b8 (a8 2 rfl h.ok) b9)⟩))
theorem aY2 (M : CM G C N mN fm) (hX : XC G "NotThere" X) (R : Rows rs) (hn : E1 n = true) (ho : E1 o = true) (h : d9 n rs = []) (hd : 120 ≤ G.d) : WR G y8 y9 [C3 C dx, .str n, .str o, .unb, .unb] (σR dx b (e8 50 rs)) X :=
 G0 [_, _] (n9 (d7 (j0 M (C1 hn) (by exact S7 hd)) (b8 (a8 1 rfl) b9)) (n9 (d7 (j0 M (C1 ho) (by exact S7 hd)) (b8 (a8 2 rfl) b9)) (d6 ⟨rfl, S8 M.t M.need_under D8 (a8 0 rfl) (b8 (a8 1 rfl) b9) rfl (by exact aU9 hd) (P4 M.dn hX R (o0 hn) h (by show 70 ≤ G.d - 1; exact bt0 hd))⟩)))
theorem aY1 (M : CM G C N mN fm) (hX : XC G "TooLong" X) (R : Rows rs) (hn : E1 n = true) (ho : E1 o = true) (h : d9 n rs ≠ []) (hl : ∃ r ∈ d9 n rs, z5 n o r) (hd : 120 ≤ G.d) : WR G y8 y9 [C3 C dx, .str n, .str o, .unb, .unb] (σR dx b (e8 50 rs)) X :=
 G0 [_, _, _] (n9 (d7 (j0 M (C1 hn) (by exact S7 hd)) (b8 (a8 1 rfl) b9)) (n9 (d7 (j0 M (C1 ho) (by exact S7 hd)) (b8 (a8 2 rfl) b9)) (i8 3 (A3 M R D8 (a8 0 rfl) (a8 1 rfl) (o0 hn) h (by exact ag3 hd)) (d6 ⟨rfl, aL9 M.t M.need_short D8 (a8 0 rfl) (b8 (a8 1 rfl) (b8 (a8 2 rfl) b9)) rfl (by exact aU9 hd) (Y1 M.dn hX R (o0 hn) (o0 ho) hl (by show 70 ≤ G.d - 1; exact bt0 hd))⟩))))
theorem aY0 (M : CM G C N mN fm) (hX : XC G "Taken" X) (R : Rows rs) (hn : E1 n = true) (ho : E1 o = true) (h : d9 n rs ≠ []) (hs : ∀ r ∈ d9 n rs, ¬ z5 n o r) (hh : M3 rs (g0 n o rs) = true) (hd : 120 ≤ G.d) : WR G y8 y9 [C3 C dx, .str n, .str o, .unb, .unb] (σR dx b (e8 50 rs)) X :=
 G0 [_, _, _, _] (n9 (d7 (j0 M (C1 hn) (by exact S7 hd)) (b8 (a8 1 rfl) b9)) (n9 (d7 (j0 M (C1 ho) (by exact S7 hd)) (b8 (a8 2 rfl) b9)) (i8 3 (A3 M R D8 (a8 0 rfl) (a8 1 rfl) (o0 hn) h (by exact ag3 hd)) (n9 (F5 M R D8 (a8 0 rfl) (a8 1 rfl) (a8 2 rfl) (o0 hn) (o0 ho) hs (by exact ag3 hd)) (d6 ⟨rfl, bx6 (ba5 M.p hX R (o0 hn) (o0 ho) (by exact bi1 hd) (fun e => h (I5.mp e)) hh) (b8 (w5 M.t D8 (a8 0 rfl)) (b8 (a8 1 rfl) (b8 (a8 2 rfl) b9)))⟩)))))
theorem aX9 (M : CM G C N mN fm) (hX : XC G "TooMany" X) (R : Rows rs) (hn : E1 n = true) (ho : E1 o = true) (h : d9 n rs ≠ []) (hs : ∀ r ∈ d9 n rs, ¬ z5 n o r) (hh : M3 rs (g0 n o rs) = false) (hf : (100 : Int) < (rs.length : Int) + (d9 n rs).length) (hd : 120 ≤ G.d) : WR G y8 y9 [C3 C dx, .str n, .str o, .unb, .unb] (σR dx b (e8 50 rs)) X :=
 G0 [_, _, _, _, _] (n9 (d7 (j0 M (C1 hn) (by exact S7 hd)) (b8 (a8 1 rfl) b9)) (n9 (d7 (j0 M (C1 ho) (by exact S7 hd)) (b8 (a8 2 rfl) b9)) (i8 3 (A3 M R D8 (a8 0 rfl) (a8 1 rfl) (o0 hn) h (by exact ag3 hd)) (n9 (F5 M R D8 (a8 0 rfl) (a8 1 rfl) (a8 2 rfl) (o0 hn) (o0 ho) hs (by exact ag3 hd)) (i8 4 (d7 (aD5 M.p R (o0 hn) (o0 ho) (by exact bi1 hd) (fun e => h (I5.mp e)) hh) (b8 (w5 M.t D8 (a8 0 rfl)) (b8 (a8 1 rfl) (b8 (a8 2 rfl) b9)))) (d6 ⟨rfl, Y4 (Tr.to (bg0 M R D8 (a8 0 rfl) (a8 3 rfl) (by exact o5 _ (.k 1 (.num 120) c8 .o) (.num 60) c8 tt hd)) (decide_eq_true hf)) (fun _ => J4 hX) nF⟩))))))
theorem bC7 (M : CM G C N mN fm) (hne : dx ≠ b) {k : V} {f : Nat} (hps : ps.length ≤ 1000) : WS G R5 R6 [C3 C dx] (σT σ0 dx b k (ps ++ [e8 f rs])) (trQ dx b fun x k' ps' => x = .none ∧ k' = e8 f rs ∧ ps' = ps) := by
 refine f8 (b := false) (Tr.to (d8 (av7 (aa3 M.t (s8 hne) (a8 0 rfl)) G1 (by rw [List.length_append]; show _ + 1 < _; exact o5 _ (.k 1 c8 (.num 1000) .o) (.add i9 k9) (.num 4611686018427387904) tt hps)) c9 m7) ?_) nT fun _ => d6 (bl1 M.t (s8 hne) G1 hne (by exact bt6 hps) (fun _ _ => aM5) (a8 0 rfl) (a8 0 rfl) (d6 ⟨_, ps, Ow.put_self .., (Ow.put_ne _ _ hne.symm).trans (Ow.set_self ..), rfl, rfl, rfl⟩))
 rw [List.length_append]
 exact beq_eq_false_iff_ne.mpr (by show ¬ ((ps.length + 1 : Nat) : Int) = 0; exact fun q => (fun u1 => (f'1 _ (.k 1 i9 w9 .o) tt (Nat.le_of_eq u1))) (Int.ofNat_inj.mp q))
noncomputable abbrev σB (dx b : Addr) (k : V) (ps : List V) : Ow := (σ0.put dx (.tr false k b)).put b (.ro ps)
theorem bx5 (M : CM G C N mN fm) (hX : XC G "NothingDone" X) (hne : dx ≠ b) {k : V} : WR G R5 R6 [C3 C dx] (σB dx b k []) X :=
 Y4 (b := true) (d8 (bq5 (aa3 M.t ((Ow.put_ne _ _ hne).trans (Ow.put_self ..)) (a8 0 rfl)) (Ow.put_self ..) (by decide)) c9 m7) (fun _ => J4 hX) nF
end
section
variable {G : Gl} {K : Sx} {ρ : List V} {σ : Ow} {Q : KS} {f : Str} {xs : List V} {es : List PySem.Expr} {ss : List Stmt} {P : V → Prop} {p q' pc : Pos}
end
theorem bb6 {G : Gl} {f : Str} {xs : List V} {z : V} (h : bx1 G f xs (· = z)) : Pure G f xs z := ⟨h.is, fun A F s E vs k r => wpAny_mono (h.run A F s E vs k r) (fun _ _ q => q.elim fun _ q => q.1 ▸ q.2) fun _ _ e => e⟩
noncomputable def aj7 (c : Int) : Nat := (c / 4 % 7 + 34 * (if (c / 28 % 9 == 8) = true then (1 : Int) else 0)).toNat
noncomputable def T8 (c : Int) (hs : List (List Nat)) : V :=
 if (c % 23 == 22) = true then ([V.str [97, 10], .str [9, 98], .str (N8 c 41), .none, .int 7] : List V).getD (c / 23 % 5).toNat .none
 else if ((c % 4 == 0) || (hs.map V.str).isEmpty) = true then .str (N8 (c / 28) (aj7 c))
 else if (c % 4 == 1) = true then .str (hs.getD (c / 28 % hs.length).toNat [])
 else if (c % 4 == 2) = true then .str ((hs.getD (c / 28 % hs.length).toNat [] ++ N8 (c / 28) (aj7 c)).take 40)
 else .str ((hs.getD (c / 28 % hs.length).toNat []).take (c * 48271 % 2147483647 % ((hs.getD (c / 28 % hs.length).toNat []).length + 1)).toNat)
noncomputable def ak6 (c : Int) (hs : List (List Nat)) : V := if (c / 10 % 9 == 4) = true then T8 (c / 10) hs else T8 (c * 69621 % 2147483629) hs
theorem az2 (c : Int) : aj7 c ≤ 40 ∧ c / 4 % 7 + 34 * (if (c / 28 % 9 == 8) = true then (1 : Int) else 0) = aj7 c := by
 have m0 := E8 (c / 4) (m := 7) (by decide)
 have m1 := Int.emod_lt_of_pos (c / 4) (b := 7) (by decide)
 unfold aj7
 constructor <;> split <;> (first | exact bZ4  | exact bZ3  | exact bZ2 m0 | exact bZ1 m0)
theorem bp9 {hs : List (List Nat)} (hl : ∀ h ∈ hs, h.length ≤ 40) (i : Nat) : (hs.getD i []).length ≤ 40 := by
 rw [List.getD_eq_getElem?_getD]
 cases h : hs[i]? with
 | none => exact Nat.zero_le _
 | some x => exact hl x (List.mem_of_getElem? h)
section
variable {G : Gl}
theorem V8 (FA : O0 G) (FW : J2 G) (FS : F9 G) {c : Int} {hs : List (List Nat)} (hl : ∀ h ∈ hs, h.length ≤ 40) (hn : hs.length ≤ 10000) (hd : 3 ≤ G.d) : Pure G "_law_text_by" [.int c, .lst (hs.map .str)] (T8 c hs) := by
 have hlen : (hs.map V.str).length = hs.length := List.length_map ..
 refine bb6 (aA1 FA rfl (by exact bE2 hd) (f8 (d8 (x9 (a8 0 rfl) c9 (by decide)) c9 m7) (fun h1 => ?_) fun h1 => d6 ?_))
 ·have m0 := E8 (c / 23) (m := 5) (by decide)
  have m1 := Int.emod_lt_of_pos (c / 23) (b := 5) (by decide)
  have hz : ([V.str [97, 10], .str [9, 98], .str (N8 c 41), .none, .int 7] : List V)[(c / 23 % 5).toNat]? = some (T8 c hs) := by
   unfold T8
   rw [if_pos h1, List.getD_eq_getElem?_getD, List.getElem?_eq_getElem (by show _ < 5; exact bZ0 )]; rfl
  exact g8 (B2 (z6 (b8 (i0 [97, 10]) (b8 (i0 [9, 98]) (b8 (d7 (ad7 (G := G.dn) (n := 41) FW FS (by decide) (by show 2 ≤ G.d - 1; exact bt8 hd)) (b8 (a8 0 rfl) (b8 c9 b9))) (b8 o9 (b8 c9 b9))))) (by show 5 ≤ _; decide)) (x9 (B3 (a8 0 rfl) c9 (by decide) (by decide)) c9 (by decide)) m0 (by exact bY9 ) hz) ⟨_, .id _, rfl⟩
 have h1 : ¬ (c % 23 == 22) = true := by rw [h1]; decide
 obtain ⟨hn40, en⟩ := az2 c
 have hwl := P6 (c / 28) (aj7 c)
 refine i8 2 ((H5 (x9 (B3 (a8 0 rfl) c9 (by decide) (by decide)) c9 (by decide)) (Q8 c9 (ah6 (F0 (x9 (B3 (a8 0 rfl) c9 (by decide) (by decide)) c9 (by decide)) c9 m7)) (.of_left (by decide)))).to (congrArg V.int en)) (i8 3 (d7 (ad7 (G := G.dn) (n := aj7 c) FW FS (by exact M4 hn40) (by show 2 ≤ G.d - 1; exact bt8 hd)) (b8 (B3 (a8 0 rfl) c9 (by decide) (by decide)) (b8 (a8 2 rfl) b9))) ?_)
 refine f8 (v1 (I1 (d8 (x9 (a8 0 rfl) c9 (by decide)) c9 m7) fun _ => x6 (d8 (a8 1 rfl) (z6 b9 sz0) ad6))) (fun h => g8 (a8 3 rfl) ⟨_, .id _, by unfold T8; rw [if_neg h1, if_pos h]⟩) fun h => d6 ?_
 have h2 : ¬ ((c % 4 == 0) || (hs.map V.str).isEmpty) = true := by rw [h]; decide
 have hne : hs ≠ [] := by
  rintro rfl
  simp at h
 have hp : 0 < hs.length := List.length_pos_iff.mpr hne
 obtain ⟨i, ei, hi⟩ := bo0 (c / 28) hs.length (by exact Int.ofNat_lt.mpr (o5 _ (.k 1 (.add w9 k9) c8 .o) (.add w9 k9) c8 tt hp))
 have hi' : i < hs.length := by exact n8 _ _ (.k 1 i9 d5 .o) i9 d5 tt (Int.ofNat_lt.mp hi)
 have ho : hs.getD (c / 28 % hs.length).toNat [] = hs[i] := by rw [ei, Int.toNat_natCast, List.getD_eq_getElem?_getD, List.getElem?_eq_getElem hi']; rfl
 have hr : (hs.map V.str)[(i : Int).toNat]? = some (.str hs[i]) := by rw [Int.toNat_natCast, List.getElem?_map, List.getElem?_eq_getElem hi']; rfl
 have hol := hl _ (List.getElem_mem hi')
 generalize hs[i] = o at hr hol ho
 refine i8 4 (B2 (i := i) (a8 1 rfl) ((x9 (B3 (a8 0 rfl) c9 (by decide) (by decide)) (A6 (a8 1 rfl) (by rw [hlen]; exact o5 _ (.k 1 c8 (.num 10000) .o) i9 (.num 4611686018427387904) tt hn)) (by rw [hlen]; exact Int.ofNat_lt.mpr (o5 _ (.k 1 (.add w9 k9) c8 .o) (.add w9 k9) c8 tt hp))).to (by rw [hlen, ei])) (n0 i) (by exact Int.ofNat_lt.mpr (n8 _ _ (.k 1 i9 d5 (.k 1 d5 (.num 10000) .o)) i9 (.num 4611686018427387904) tt (Int.ofNat_lt.mp hi) hn)) hr) ?_
 refine f8 (d8 (x9 (a8 0 rfl) c9 (by decide)) c9 m7) (fun h3 => g8 (a8 4 rfl) ⟨_, .id _, by unfold T8; rw [if_neg h1, if_neg h2, if_pos h3, ho]⟩) fun h3 => d6 ?_
 have h3 : ¬ (c % 4 == 1) = true := by rw [h3]; decide
 refine f8 (d8 (x9 (a8 0 rfl) c9 (by decide)) c9 m7) (fun h4 => g8 (E9 (E7 (a8 4 rfl) (a8 3 rfl) (by rw [C5]; exact z3 _ _ _ (.k 1 c8 (.num 40) (.k 1 d5 e9 (.k 1 e9 (.num 40) .o))) (.add c8 d5) (.num 16777216) tt hol (Nat.le_of_eq hwl) hn40)) z9 (w7 c9) (by rw [C5, List.length_append]; exact z3 _ _ _ (.k 1 c8 (.num 40) (.k 1 d5 e9 (.k 1 e9 (.num 40) .o))) (.add c8 d5) (.num 16777216) tt hol (Nat.le_of_eq hwl) hn40)) ⟨_, .id _, ?_⟩) fun h4 => d6 ?_
 ·unfold T8; rw [if_neg h1, if_neg h2, if_neg h3, if_pos h4, ho, aj6 _ (by decide)]; rfl
 ·have h4 : ¬ (c % 4 == 2) = true := by rw [h4]; decide
  refine g8 (E9 (a8 4 rfl) z9 (w7 (x9 (x9 (Q8 (a8 0 rfl) c9 (.of_right (by decide))) c9 (by decide)) (H5 (B9 (a8 4 rfl) (by exact aw5 hol)) c9) (by exact Int.ofNat_lt.mpr (o5 _ .o (.add w9 k9) i9 tt )))) (by rw [C5]; exact aV2 hol)) ⟨_, .id _, ?_⟩
  unfold T8; rw [if_neg h1, if_neg h2, if_neg h3, if_neg h4, ho, aj6 _ (E8 _ (by exact Int.ofNat_lt.mpr (o5 _ .o (.add w9 k9) i9 tt )))]
theorem aK0 (FO : U9 G) (FA : O0 G) (FW : J2 G) (FS : F9 G) {c : Int} {hs : List (List Nat)} (hl : ∀ h ∈ hs, h.length ≤ 40) (hn : hs.length ≤ 10000) (hd : 4 ≤ G.d) : Pure G "_law_other_by" [.int c, .lst (hs.map .str)] (ak6 c hs) :=
 l7 FO rfl (by exact o5 _ (.k 1 c'4 c8 .o) (.add w9 k9) c8 tt hd) (f8 (d8 (x9 (B3 (a8 0 rfl) c9 (by decide) (by decide)) c9 (by decide)) c9 m7) (fun h => g8 (d7 (V8 (G := G.dn) FA FW FS hl hn (by show 3 ≤ G.d - 1; exact bK0 hd)) (b8 (B3 (a8 0 rfl) c9 (by decide) (by decide)) (b8 (a8 1 rfl) b9))) (by unfold ak6; rw [if_pos h]; exact .id _)) fun h => d6 (g8 (d7 (V8 (G := G.dn) FA FW FS hl hn (by show 3 ≤ G.d - 1; exact bK0 hd)) (b8 (x9 (Q8 (a8 0 rfl) c9 (.of_right (by decide))) c9 (by decide)) (b8 (a8 1 rfl) b9))) (by unfold ak6; rw [if_neg (by rw [h]; decide)]; exact .id _)))
end
structure aP9 (G : Gl) (mN : Str → Option Value) (fI : Addr) : Prop where
 i1 : mN "__init__" = some (.ref fI)
 i2 : ∃ o, G.B.get? fI = some o ∧ o.cls = .type "function"
 i3 : FnO G.B fI ab4 1 ab5
inductive ca0 (X : Bool) (C : Addr) (F : Fz) (s : Shared) (v : Value) (s' : Shared) : Prop
 | mk (x dx b : Addr) (F' : Fz) (o od : Obj) (hv : v = .ref x) (S : St X N0 F s F' s') (hx : F' x = some o) (hp : trP C dx x o x o) (hd0 : s.heap.get? dx = none) (hdF : F' dx = none) (hd : s'.heap.get? dx = some od) (hr : OcR X F' od (.tr true .none b)) (hb0 : s.heap.get? b = none) (hbF : F' b = none) (hb : s'.heap.get? b = some (z7 [] 0)) (hne : dx ≠ b)
section
variable {G : Gl} {C N : Addr} {mN : Str → Option Value} {fI : Addr}
structure In (h : Heap) (x dx C : Addr) (mA : Str → Option Value) : Prop where
 obj : ∃ o, h.get? x = some o ∧ o.cls = .ref C ∧ (∀ c, o.data ≠ .cls c) ∧ o.dict = some dx
 ne : dx ≠ x
 ns : h.Ns1 dx mA
theorem In.inst {h : Heap} {x dx C : Addr} {mA : Str → Option Value} (i : In h x dx C mA) : h.Inst x C mA := i.obj.imp fun _ q => ⟨q.1, q.2.1, q.2.2.1, .inr ⟨dx, q.2.2.2, i.ne, i.ns⟩⟩
theorem In.step {x dx C : Addr} {mA : Str → Option Value} {F F' : Fz} {s s' : Shared} (i : In s.heap x dx C mA) (S : St G.x N0 F s F' s') : In s'.heap x dx C mA := by
 obtain ⟨o, h1, h2, h3, h4⟩ := i.obj
 obtain ⟨o', e, k⟩ := S.keepO x o h1 id
 refine ⟨⟨o', e, ?_⟩, i.ne, ?_⟩
 ·rcases k with rfl | ⟨_, _, sl, rfl⟩
  ·exact ⟨h2, h3, h4⟩
  ·exact ⟨h2, h3, h4⟩
 ·obtain ⟨od, es, ep, ho, hd, r⟩ := i.ns
  obtain ⟨od', e', k'⟩ := S.keepO dx od ho id
  exact ⟨od', es, ep, e', k'.data.trans hd, r⟩
theorem In.of {h h' : Heap} {x dx C : Addr} {mA mA' : Str → Option Value} (i : In h x dx C mA) (I : h'.Inst x C mA') (hs : ∀ o₀, h.get? x = some o₀ → ∃ o₁, h'.get? x = some o₁ ∧ o₁.cls = o₀.cls ∧ o₁.data = o₀.data ∧ o₁.slots = o₀.slots ∧ ∀ dx, o₀.dict = some dx → o₁.dict = some dx) : In h' x dx C mA' := by
 obtain ⟨o, h1, h2, h3, h4⟩ := i.obj
 obtain ⟨o₁, e, g1, g2, _, g4⟩ := hs o h1
 obtain ⟨o₂, e₂, _, _, I₂⟩ := I
 cases e.symm.trans e₂
 have hd := g4 dx h4
 refine ⟨⟨o₁, e, g1.trans h2, fun c => g2 ▸ h3 c, hd⟩, i.ne, ?_⟩
 rcases I₂ with ⟨hn, _⟩ | ⟨d', hd', _, ns⟩
 ·exact nomatch hd.symm.trans hn
 ·cases hd.symm.trans hd'; exact ns
theorem St.privs {D D' : Addr → Prop} {F₀ F : Fz} {s₀ s : Shared} {h' : Heap} {t : Nat} (S : St G.x D F₀ s₀ F s) (hD : ∀ q, D' q → F q = none ∧ s₀.heap.get? q = none) (up : ∀ b o, ¬ D' b → s.heap.get? b = some o → h'.get? b = some o) : St G.x D F₀ s₀ F { s with heap := h', toks := t } :=
 have ne : ∀ b o, s₀.heap.get? b = some o → ¬ D' b := fun b o e h => nS ((hD b h).2.symm.trans e)
 ⟨S.up, fun a o e => up a o (fun h => nS ((hD a h).1.symm.trans e)) (S.sub a o e), fun b o e d => (S.keepO b o e d).imp fun o' q => ⟨up b o' (ne b o e) q.1, q.2⟩, fun b o e => (S.live b o e).imp fun o' e' => ⟨up b o' (ne b o e) e'.1, e'.2⟩, S.new, by rw [S.rest]⟩
theorem aG3 (T : TrC G C N mN) (I : aP9 G mN fI) {A : Around} {F : Fz} {s : Shared} {E : Value → Shared → Prop} (R : Rm G A F s) (hd : 3 ≤ G.d) : wpAny G.M A (call (.ref C) []) (ca0 G.x C F s) E s := by
 obtain ⟨hh, g, d, t, os⟩ := s
 have X := T.cls.keeps R.in
 obtain ⟨xq14, hC⟩ := aA6 X
 obtain ⟨oI, hI, hIc⟩ := I.i2
 refine wpAny_call_obj_init PySem.F.objNew hC X.ns I.i1 (R.in _ _ hI) hIc fun h' x dx Mk => ?_
 have S₀ : St G.x N0 F ⟨hh, g, d, t, os⟩ F ⟨h', g, d, t, os⟩ := .grow (s := ⟨hh, g, d, t, os⟩) (t := t) R.sub Mk.keeps
 have out : ∀ {a : Addr}, hh.get? a = none → F a = none := fun {a} e => R.out e
 have R' : Rm G.dn (A.under (.builtin "type.__call__" ⟨[.ref C], []⟩)) F ⟨h', g, d, t, os⟩ := by
  have R₁ := R.step S₀
  refine ⟨⟨R.go.g, R.go.b, R.go.nolimit, R.go.blt⟩, R.base, R₁.sub, ?_, ?_, R₁.handled, R₁.frames⟩
  ·have := R.depth; show A.depth + 1 + (G.d - 1) ≤ recursionLimit; exact I0 _ _ _ _ (.k 1 (.add c8 d5) e9 (.k 1 I9 d5 .o)) (.add i9 o7) e9 tt this (F1 (o5 _ (.k 1 R4 c8 .o) k9 c8 tt hd))
  ·have := R.units
   have hu : (Code.builtin "type.__call__" ⟨[.ref C], []⟩).cUnits ≤ 10 := by first | exact Nat.le_of_ble_eq_true rfl | (simp [Code.cUnits]; done) | (unfold Code.cUnits; split <;> decide)
   show A.units + (Code.builtin "type.__call__" ⟨[.ref C], []⟩).cUnits + 10 * (G.d - 1) + 100 ≤ cLine
   (exact Nat.le_of_not_lt fun u1 => (f'5 _ _ _ _ _ (.k 1 (.add (.add c8 (.mulL 10 d5)) (.num 100)) e9 (.k 1 o7 (.num 10) (.k 10 s'4 d5 (.k 1 D9 (.add (.add (.add c8 o7) (.mulL 10 A9)) (.num 100)) .o)))) tt this hu (F1 (o5 _ (.k 1 R4 c8 .o) k9 c8 tt hd)) u1))
 obtain ⟨ox, hx, hxc, hxn, hxd⟩ := id Mk.inst
 have hxdx := Mk.dict ox hx
 have hxC : x ≠ C := by rintro rfl; exact nS (Mk.newX.symm.trans hC)
 refine wpAny_call (R0 (G := G.dn) (σ := σ0) (xs := [.ref x]) I.i3 rfl (by show 0 < G.d - 1; exact bO8 hd) R' ⟨_, _, rfl, rfl, rfl⟩ (fun _ _ q => nomatch q) fun env s₁ k₁ S₁ hown hnf => ?_)
 have apart : ∀ q, q = x ∨ q = dx → F q = none ∧ hh.get? q = none := by
  rintro q (rfl | rfl)
  ·exact ⟨out Mk.newX, Mk.newX⟩
  ·exact ⟨out Mk.newD, Mk.newD⟩
 have I₀ : In h' x dx C fun _ => none := by
  obtain ⟨o, e, c, n, r⟩ := Mk.inst
  have hd := Mk.dict o e
  rcases r with ⟨hn, _⟩ | ⟨d', hd', ne, ns⟩
  ·exact nomatch hd.symm.trans hn
  ·cases hd.symm.trans hd'; exact ⟨⟨o, e, c, n, hd⟩, ne, ns⟩
 have ldx : ∃ o, h'.get? dx = some o := I₀.ns.imp fun _ q => q.elim fun _ q => q.elim fun _ q => q.1
 have dm : ∀ q, q = x ∨ q = dx → F q = none ∧ ¬ Own env q ∧ L6 ((A.under (.builtin "type.__call__" ⟨[.ref C], []⟩)).deeper env) q := by
  have nf : ∀ q, hh.get? q = none → L6 (A.under (.builtin "type.__call__" ⟨[.ref C], []⟩)) q := fun q e => (show L6 A q from R.nofr fun o es n e' => nS (e.symm.trans e'))
  rintro q (rfl | rfl)
  ·exact ⟨out Mk.newX, fun ho => (nS ((hown _ ho).symm.trans hx)), hnf _ _ hx (nf _ Mk.newX)⟩
  ·exact ⟨out Mk.newD, fun ho => ldx.elim fun _ e => (nS ((hown _ ho).symm.trans e)), ldx.elim fun _ e => hnf _ _ e (nf _ Mk.newD)⟩
 have keep : ∀ {h₁ h₂ : Heap} {m₁ : Str → Option Value}, In h₁ x dx C m₁ → (∀ b o, b ≠ x → (∀ o₀ dx, h₁.get? x = some o₀ → o₀.dict = some dx → b ≠ dx) → h₁.get? b = some o → h₂.get? b = some o) → ∀ b o, ¬ (b = x ∨ b = dx) → h₁.get? b = some o → h₂.get? b = some o := fun i hk b o hb e => hk b o (fun h => hb (.inl h)) (fun o₀ d' h1 h2 => by
  obtain ⟨o, e', _, _, e''⟩ := i.obj
  cases h1.symm.trans e'; cases h2.symm.trans e''
  exact fun h => hb (.inr h)) e
 have I₁ := I₀.step S₁
 have S01 := S₀.trans S₁
 refine wpAny_execs_cons (plainObj_wpAny_Assign_Attribute (by
  rw [eval_Constant]
  refine wpAny_pure (L1 (G := G.dn.dn) k₁.e (i := 0) (x := .ref x) rfl rfl (by decide +kernel) fun v r => ?_)
  cases show v = .ref x from r
  obtain ⟨h₁, g₁, d₁, t₁, os₁⟩ := s₁
  have C₁ := T.cls.keeps (show ∀ b o, G.B.get? b = some o → h₁.get? b = some o from k₁.e.rm.in)
  obtain ⟨xq15, hC₁⟩ := aA6 C₁
  refine store_attr (ns := []) PySem.F.store_object hC₁ C₁.ns T.q1 T.q4 au5 hxC I₁.inst (fun h₂ tk I₂' hk hsame => ?_) (fun y h => absurd rfl h) (Nat.zero_le _)
  have I₂ := I₁.of I₂' hsame
  have up₂ := keep I₁ hk
  have k₂ := k₁.others (t := tk) (σ' := σ0) dm up₂ (fun _ _ q => nomatch q) (fun _ _ q => nomatch q)
  have S02 := S01.privs (t := tk) apart up₂
  refine wpAny_execs_cons (plainObj_wpAny_Assign_Attribute (List_ (Calls.spliced_nil (wpAny_newObj_type ?_ (Nat.zero_le _)))) rfl)
  have S₃ : St G.x N0 F ⟨h₂, g₁, d₁, tk, os₁⟩ F ⟨h₂.push (z7 [] 0), g₁, d₁, tk, os₁⟩ := .grow (s := ⟨h₂, g₁, d₁, tk, os₁⟩) (t := tk) k₂.e.rm.sub fun _ _ e => Heap.get?_push_of_some _ e
  have k₃ := k₂.step S₃
  have I₃ := I₂.step S₃
  refine L1 (G := G.dn.dn) k₃.e (i := 0) (x := .ref x) rfl rfl (by decide +kernel) fun v r => ?_
  cases show v = .ref x from r
  have C₃ := T.cls.keeps (show ∀ b o, G.B.get? b = some o → (h₂.push (z7 [] 0)).get? b = some o from k₃.e.rm.in)
  obtain ⟨xq16, hC₃⟩ := aA6 C₃
  refine store_attr (ns := ["kept"]) PySem.F.store_object hC₃ C₃.ns T.q1 T.q5 aN7 hxC I₃.inst (fun h₄ tk₄ I₄' hk₄ hsame₄ => wpAny_execs_nil ?_) (fun y h => ?_) (by decide)
  ·have I₄ := I₃.of I₄' hsame₄
   have S04 := (S02.trans S₃).privs (t := tk₄) apart (keep I₃ hk₄)
   obtain ⟨o₄, e₄, c₄, n₄, d₄⟩ := I₄.obj
   obtain ⟨od, es, ep, hd, hdd, hsk, huk, hk⟩ := I₄.ns
   have S5 := S04.freeze Mk.newX e₄ (out Mk.newX)
   have hbn : h₂.get? h₂.objs.size = none := j9 _
   have hb0 : hh.get? h₂.objs.size = none := S02.dead hbn
   have hbx : h₂.objs.size ≠ x := fun e => I₂.obj.elim fun _ q => nS ((e ▸ hbn : h₂.get? x = none).symm.trans q.1)
   have hbd : h₂.objs.size ≠ dx := fun e => I₂.ns.elim fun _ q => q.elim fun _ q => q.elim fun _ q => nS ((e ▸ hbn : h₂.get? dx = none).symm.trans q.1)
   have hb4 := keep I₃ hk₄ h₂.objs.size (z7 [] 0) (fun q => q.elim hbx hbd) (Heap.get?_push_size _ rfl)
   exact ⟨rfl, x, dx, h₂.objs.size, F.add x o₄, o₄, od, rfl, S5, if_pos rfl, ⟨c₄, d₄, I₄.ne, n₄⟩, Mk.newD, (if_neg I₄.ne).trans (out Mk.newD), hd, ⟨es, ep, .none, hdd, hsk, huk, (hk _).trans rfl, (hk _).trans rfl, fun n n1 n2 => (hk n).trans ((if_neg n2).trans (if_neg n1)), nofun, rfl⟩, hb0, (if_neg hbx).trans (out hb0), hb4, hbd.symm⟩
  ·rcases Classical.em (y = "kept") with rfl | hy
   ·exact List.mem_cons_self ..
   ·exact absurd (if_neg hy) h) rfl)
end
section
variable {G : Gl} {K : Sx} {A : Around} {env : Env} {ρ : List V} {σ : Ow} {F F' : Fz} {s s' : Shared} {E : Value → Shared → Prop} {Q : KS} {ss : List Stmt} {C N dx b : Addr} {mN : Str → Option Value} {fI : Addr} {o od : Obj}
theorem FOk.newTrail (k : FOk G K A env ρ σ F s) (S : St G.x N0 F s F' s') (hd0 : s.heap.get? dx = none) (hdF : F' dx = none) (hd : s'.heap.get? dx = some od) (hr : OcR G.x F' od (.tr true .none b)) (hb0 : s.heap.get? b = none) (hbF : F' b = none) (hb : s'.heap.get? b = some (z7 [] 0)) (hne : dx ≠ b) : σ dx = none ∧ σ b = none ∧ FOk G K A env ρ (σT σ dx b .none []) F' s' ∧ Lk G.x env σ F s (σT σ dx b .none []) F' s' := by
 have k' := k.step S
 have no : ∀ {a : Addr}, s.heap.get? a = none → σ a = none := fun {a} h => by
  cases q : σ a with
  | none => rfl
  | some c => exact (k.e.own _ c q).2.elim fun _ q => nS (h.symm.trans q.1)
 refine ⟨no hd0, no hb0, ⟨⟨k'.e.rm, k'.e.sc, k'.e.kind, k'.e.globals, k'.e.builtins, fun a c q => ?_, k'.e.loc⟩, k'.top, k'.apart, k'.nodup, k'.own, fun a c q => ?_⟩, S.any, fun a c q => ?_⟩ <;> by_cases h1 : a = b
 ·subst h1; cases G1.symm.trans q; exact ⟨hbF, _, hb, [], 0, rfl, rfl⟩
 ·by_cases h2 : a = dx
  ·subst h2; cases (s8 hne).symm.trans q; exact ⟨hdF, od, hd, hr⟩
  ·exact k'.e.own a c ((M5 h2 h1).symm.trans q)
 ·subst h1; exact k.newSep hb0
 ·by_cases h2 : a = dx
  ·subst h2; exact k.newSep hd0
  ·exact k.sep a c ((M5 h2 h1).symm.trans q)
 ·exact .inr (h1 ▸ hb0)
 ·by_cases h2 : a = dx
  ·exact .inr (h2 ▸ hd0)
  ·exact .inl ⟨c, (M5 h2 h1).symm.trans q, id⟩
theorem aJ1 {p q : Pos} {R : Value → Shared → Prop} (T : TrC G C N mN) (I : aP9 G mN fI) (hd : 3 ≤ G.d) (k : FOk G K A env ρ σ F s) (hg : j8 K "Trail" = true)
  (h : ∀ v s' x dx b F' o, v = .ref x → F' x = some o → trP C dx x o x o → dx ≠ b → σ dx = none → σ b = none → St G.x N0 F s F' s' → FOk G K A env ρ (σT σ dx b .none []) F' s' → Lk G.x env σ F s (σT σ dx b .none []) F' s' → R v s') : wpAny G.M A (eval (.Call (.Name "Trail" q) [] [] p) env) R E s :=
 wpAny_Call_NameR (n7 k.e (.inl T.bound) hg (callWith_cls0 T.cls k.e.rm.in (wpAny_mono (aG3 T I k.e.rm hd) (fun v s₁ t => t.casesOn fun x dx b F' o od hv S hx hp hd0 hdF hd hr hb0 hbF hb hne => by
  obtain ⟨h1, h2, k', L⟩ := k.newTrail S hd0 hdF hd hr hb0 hbF hb hne
  exact h v s₁ x dx b F' o hv hx hp hne h1 h2 S k' L) fun _ _ e => e)))
theorem aZ0 (i : Nat) {n : Str} {q₀ q₁ p₁ p : Pos} (T : TrC G C N mN) (I : aP9 G mN fI) (hd : 3 ≤ G.d) (h : ∀ dx b, dx ≠ b → σ dx = none → σ b = none → WS G K ss (ρ.set i (C3 C dx)) (σT σ dx b .none []) Q)
  (hx : w0 K i n = true := by decide +kernel) (hg : j8 K "Trail" = true := by decide +kernel) : WS G K (.Assign [.Name n q₀] (.Call (.Name "Trail" q₁) [] [] p₁) p :: ss) ρ σ Q :=
 w4 fun A env F s E k => wpAny_Assign_Name (aJ1 T I hd k hg fun v s₁ x dx b F₁ o hv hx1 hp hne h1 h2 S₁ k₁ L₁ => by
  subst hv
  exact A5 (x := C3 C dx) k₁ hx ⟨x, o, x, o, rfl, hx1, hx1, hp⟩ fun h' t k₄ L₄ _ => ⟨.next, _, _, F₁, trivial, k₄, L₁.trans L₄, h dx b hne h1 h2⟩) rfl
end
theorem G3 {n : List Nat} : ∀ {l : List Rw}, A8 l n = none ↔ ∀ r ∈ l, r.1 ≠ n
 | [] => ⟨fun _ r hr => (nomatch hr), fun _ => rfl⟩
 | r :: l => by
  unfold A8
  rw [List.find?_cons]
  by_cases e : r.1 = n
  ·rw [beq_iff_eq.mpr e]
   exact ⟨nofun, fun h => absurd e (h r (List.mem_cons_self ..))⟩
  ·rw [beq_eq_false_iff_ne.mpr e]
   exact (G3 (l := l)).trans ⟨fun h q hq => (List.mem_cons.mp hq).elim (fun h' => h' ▸ e) (h q), fun h q hq => h q (List.mem_cons_of_mem _ hq)⟩
theorem G6 {n : List Nat} {v : Int} : ∀ {l : List Rw}, Dst l → (A8 l n = some v ↔ (n, v) ∈ l)
 | [], _ => ⟨nofun, nofun⟩
 | r :: l, d => by
  obtain ⟨d1, d2⟩ := List.pairwise_cons.mp d
  unfold A8
  rw [List.find?_cons]
  by_cases e : r.1 = n
  ·rw [beq_iff_eq.mpr e]
   constructor
   ·intro h; cases h; subst e; exact List.mem_cons_self ..
   ·intro h
    rcases List.mem_cons.mp h with h | h
    ·rw [← h]; rfl
    ·exact absurd e (d1 _ h)
  ·rw [beq_eq_false_iff_ne.mpr e]
   refine (G6 d2).trans ⟨List.mem_cons_of_mem _, fun h => (List.mem_cons.mp h).resolve_left fun h => e (by rw [← h])⟩
theorem aI2 {n : List Nat} {xs ys : List Rw} (d : Dst xs) (p : xs.Perm ys) : A8 xs n = A8 ys n := by
 cases h : A8 ys n with
 | none => exact G3.mpr fun r hr => G3.mp h r (p.mem_iff.mp hr)
 | some v => exact (G6 d).mpr (p.mem_iff.mpr ((G6 (d.perm p)).mp h))
theorem aI8 {n : List Nat} {rs : List Rw} : ag2 rs n = s6 n rs := by
 unfold ag2 A8 s6
 cases rs.find? fun r => r.1 == n <;> rfl
theorem aS8 {n : List Nat} {xs ys : List Rw} (d : Dst xs) (p : xs.Perm ys) : ag2 xs n = s6 n ys := by
 rw [← aI8]; unfold ag2; rw [aI2 d p]
theorem I3 {n : List Nat} {v : Int} {l : List Rw} (h : ∀ r ∈ l, r.1 ≠ n) : K9 l n v = l ++ [(n, v)] := by
 unfold K9
 rw [if_neg]
 rw [List.any_eq_true]
 rintro ⟨r, hr, e⟩
 exact h r hr (eq_of_beq e)
theorem T9 {xs ys : List Rw} (d : Dst xs) (p : xs.Perm ys) : y4 xs = y4 ys := P7 (E4 d) (E4 (d.perm p)) (((m8 xs).trans p).trans (m8 ys).symm)
theorem ay9 {xs ys : List Rw} (d : Dst xs) (h : Srt ys) (p : xs.Perm ys) : y4 xs = ys := P7 (E4 d) h ((m8 xs).trans p)
theorem bp6 {kvs : List Rw} (d : Dst kvs) {ks : List (List Nat)} (hp : ks.Perm (kvs.map (·.1))) (hs : ks.Pairwise fun a b => ¬ b < a) : ks = (y4 kvs).map (·.1) := by
 have nd : ks.Pairwise (· ≠ ·) := (List.Perm.pairwise_iff (fun h => Ne.symm h) hp).mpr (List.pairwise_map.mpr d)
 have s1 : Srt (ks.map fun k => (k, 0)) := by
  refine List.pairwise_map.mpr ((nd.and hs).imp fun {a b} h => ?_)
  rcases au7 a b with q | q | q
  ·exact q
  ·exact absurd q h.1
  ·exact absurd q h.2
 have s2 : Srt (((y4 kvs).map (·.1)).map fun k => ((k, 0) : Rw)) := by
  rw [List.map_map]
  exact List.pairwise_map.mpr (E4 d)
 have e := P7 s1 s2 ((hp.trans ((m8 kvs).map (·.1)).symm).map _)
 have := congrArg (List.map (·.1)) e
 rw [List.map_map, List.map_map] at this
 have i1 : ∀ l : List (List Nat), l.map ((·.1) ∘ fun k => ((k, 0) : Rw)) = l := fun l => List.map_id l
 rwa [i1, i1] at this
structure Kv (kvs rs : List Rw) : Prop where
 d : Dst kvs
 e : y4 kvs = rs
theorem Kv.perm {kvs rs : List Rw} (h : Kv kvs rs) : kvs.Perm rs := h.e ▸ (m8 kvs).symm
theorem Kv.len {kvs rs : List Rw} (h : Kv kvs rs) : kvs.length = rs.length := h.perm.length_eq
theorem Kv.srt {kvs rs : List Rw} (h : Kv kvs rs) : Srt rs := h.e ▸ E4 h.d
theorem Kv.keys {kvs rs : List Rw} (h : Kv kvs rs) {ks : List (List Nat)} (hp : ks.Perm (kvs.map (·.1))) (hs : ks.Pairwise fun a b => ¬ b < a) : ks = rs.map (·.1) := h.e ▸ bp6 h.d hp hs
theorem Kv.filter {kvs rs : List Rw} (h : Kv kvs rs) (p : Rw → Bool) : Kv (kvs.filter p) (rs.filter p) := ⟨h.d.filter p, ay9 (h.d.filter p) (h.srt.filter p) (h.perm.filter p)⟩
theorem Kv.app {kvs rs ys : List Rw} (h : Kv kvs rs) (d : Dst (kvs ++ ys)) : Kv (kvs ++ ys) (y4 (rs ++ ys)) := ⟨d, T9 d (h.perm.append_right ys)⟩
theorem Kv.got {kvs rs : List Rw} (h : Kv kvs rs) (n : List Nat) : ag2 kvs n = s6 n rs := aS8 h.d h.perm
inductive Td : V → Bool → Prop
 | str (w : List Nat) : w.length ≤ 1000 → (∀ c ∈ w, R8 c = true ∨ c = 9 ∨ c = 10) → Td (.str w) (E1 w)
 | none : Td .none false
 | int (i : Int) : Td (.int i) false
theorem Td.tx {x : V} {b : Bool} (h : Td x b) : Tx x b := by cases h; exact .str _ ‹_›; exact .none; exact .int _
theorem ae5 {w : List Nat} (h : w.all R8 = true) (hl : w.length ≤ 1000) : Td (.str w) (E1 w) := .str w hl fun c hc => .inl (List.all_eq_true.mp h c hc)
theorem bz4 {w : List Nat} (h : ∀ c ∈ w, R8 c = true ∨ c = 9 ∨ c = 10) : (true && (decide ((w.length : Int) ≤ 40) && (!decide (10 ∈ w) && !decide (9 ∈ w)))) = E1 w := by
 have e : (!decide (10 ∈ w) && !decide (9 ∈ w)) = w.all R8 := by
  rw [Bool.eq_iff_iff, Bool.and_eq_true, Bool.not_eq_true', Bool.not_eq_true', decide_eq_false_iff_not, decide_eq_false_iff_not, List.all_eq_true]
  constructor
  ·rintro ⟨h1, h2⟩ c hc
   rcases h c hc with q | rfl | rfl
   ·exact q
   ·exact absurd hc h2
   ·exact absurd hc h1
  ·intro q
   exact ⟨fun hc => absurd (q _ hc) (by decide), fun hc => absurd (q _ hc) (by decide)⟩
 rw [e]
 unfold E1
 rw [Bool.true_and]
 congr 1
 exact decide_eq_decide.mpr (by exact bP6 )
section
variable {G : Gl} {x : V} {b : Bool}
theorem ar9 {c : Nat} {a : List Nat} : Cm G .NotIn (.str [c]) (.str a) (!decide (c ∈ a)) := by
 rintro A F s E _ _ R _ ⟨_, rfl⟩ ⟨_, rfl⟩ h
 exact P.notIn_str (by rw [StrLaws.found_one]; exact h)
theorem ah8 (FA : C7 G) (h : Td x b) (hd : 0 < G.d) : Pure G "_law_named" [x] (.bool b) := by
 cases h with
 | str w hl hw => exact l7 FA rfl hd (g8 ((Q9 (H4 (y3 10 Q2 (a8 0 rfl)) fun _ => H4 (F0 (B9 (a8 0 rfl) (by exact aE0 hl)) c9 bg2) fun _ => H4 (F0 (i0 [10]) (a8 0 rfl) ar9) fun _ => Q5 (F0 (i0 [9]) (a8 0 rfl) ar9))).to (by rw [bz4 hw])) (.id _))
 | none => exact l7 FA rfl hd (g8 (Q9 (H4 (c := false) (y3 10 ae8 (a8 0 rfl)) nofun)) (.id _))
 | int i => exact l7 FA rfl hd (g8 (Q9 (H4 (c := false) (y3 10 X6 (a8 0 rfl)) nofun)) (.id _))
end
theorem ba9 : aq5.all R8 = true := by decide +kernel
theorem bm7 (c : Int) : R8 (aj8 c) = true := by
 have h := P9
 have m0 := E8 c (m := 94) (by decide)
 have m1 := Int.emod_lt_of_pos c (b := 94) (by decide)
 have hl : (c % 94).toNat < aq5.length := by rw [h]; exact bP5
 unfold aj8
 rw [List.getD_eq_getElem?_getD, List.getElem?_eq_getElem hl]
 exact List.all_eq_true.mp ba9 _ (List.getElem_mem hl)
theorem aq0 (c : Int) : ∀ (k : Nat) (n : Int) (w : List Nat), w.all R8 = true → (ab8 c k n w).2.all R8 = true
 | 0, _, _, h => h
 | k + 1, n, w, h => by show (_ ++ [_]).all R8 = true; rw [List.all_append, aq0 c k n w h]; show (R8 (aj8 _) && true) = true; rw [bm7]; rfl
theorem ag9 (c : Int) (n : Nat) : (N8 c n).all R8 = true := aq0 c n c [] rfl
theorem av3 {hs : List (List Nat)} (h : ∀ t ∈ hs, t.all R8 = true) (i : Nat) : (hs.getD i []).all R8 = true := by
 rw [List.getD_eq_getElem?_getD]
 cases e : hs[i]? with
 | none => rfl
 | some t => exact h t (List.mem_of_getElem? e)
theorem bi0 {n : Nat} {a : List Nat} (h : a.all R8 = true) : (a.drop n).all R8 = true := List.all_eq_true.mpr fun x hx => List.all_eq_true.mp h x (List.mem_of_mem_drop hx)
theorem ab1 {n : Nat} {a : List Nat} (h : a.all R8 = true) : (a.take n).all R8 = true := List.all_eq_true.mpr fun x hx => List.all_eq_true.mp h x (List.mem_of_mem_take hx)
theorem ai8 {c : Int} {hs : List (List Nat)} (hl : ∀ h ∈ hs, h.length ≤ 40) (ho : ∀ t ∈ hs, t.all R8 = true) : ∃ b, Td (T8 c hs) b := by
 have hw := P6 c 41
 have hwo := ag9 c 41
 unfold T8
 split
 ·have m0 := E8 (c / 23) (m := 5) (by decide)
  have m1 := Int.emod_lt_of_pos (c / 23) (b := 5) (by decide)
  generalize N8 c 41 = w' at hw hwo
  have hk5 : (c / 23 % 5).toNat = 0 ∨ (c / 23 % 5).toNat = 1 ∨ (c / 23 % 5).toNat = 2 ∨ (c / 23 % 5).toNat = 3 ∨ (c / 23 % 5).toNat = 4 := by exact bP4
  rcases hk5 with h | h | h | h | h <;> rw [h]
  ·exact ⟨_, .str [97, 10] (by decide) (by decide)⟩
  ·exact ⟨_, .str [9, 98] (by decide) (by decide)⟩
  ·exact ⟨_, ae5 hwo (by exact o5 _ (.k 1 c8 (.num 41) .o) c8 (.num 1000) tt (Nat.le_of_eq hw))⟩
  ·exact ⟨_, .none⟩
  ·exact ⟨_, .int 7⟩
 ·have hg := fun i => bp9 hl i
  split
  ·exact ⟨_, ae5 (ag9 _ _) (by rw [P6]; have := (az2 c).1; exact M4 this)⟩
  ·split
   ·exact ⟨_, ae5 (av3 ho _) (by have := hg (c / 28 % hs.length).toNat; exact M4 this)⟩
   ·split
    ·exact ⟨_, ae5 (ab1 (by rw [List.all_append, av3 ho, ag9]; rfl)) (by rw [List.length_take]; exact bP3 )⟩
    ·exact ⟨_, ae5 (ab1 (av3 ho _)) (by rw [List.length_take]; have := hg (c / 28 % hs.length).toNat; exact bP2 this)⟩
theorem aR5 {c : Int} {hs : List (List Nat)} (hl : ∀ h ∈ hs, h.length ≤ 40) (ho : ∀ t ∈ hs, t.all R8 = true) : ∃ b, Td (ak6 c hs) b := by
 unfold ak6
 split <;> exact ai8 hl ho
noncomputable def S4 (st : Bool) (n : List Nat) (kvs : List Rw) : List Rw := kvs.filter fun r => st || !(slice r.1 none (some (n.length : Int)) == n)
theorem aK3 (n : List Nat) (kvs : List Rw) : S4 false n kvs = x8 n kvs := by
 unfold S4 x8
 congr 1
 funext r
 rw [Bool.false_or, B7, au3]
theorem aU7 (n : List Nat) (kvs : List Rw) : S4 true n kvs = kvs := List.filter_eq_self.mpr fun _ _ => rfl
theorem N2 {p : Rw → Bool} {l : List Rw} {i : Nat} {r : Rw} (h : l[i]? = some r) : (l.take (i + 1)).filter p = (l.take i).filter p ++ if p r then [r] else [] := by
 obtain ⟨hi, e⟩ := List.getElem?_eq_some_iff.mp h
 rw [List.take_succ_eq_append_getElem hi, e, List.filter_append, List.filter_cons]
 cases p r <;> rfl
theorem am7 {l : List Rw} (d : Dst l) {i : Nat} {r : Rw} (h : l[i]? = some r) {p : Rw → Bool} : ∀ q ∈ (l.take i).filter p, q.1 ≠ r.1 := fun q hq => by
 obtain ⟨j, hj, rfl⟩ := List.getElem_of_mem (List.mem_filter.mp hq).1
 rw [List.length_take] at hj
 obtain ⟨hi, rfl⟩ := List.getElem?_eq_some_iff.mp h
 rw [List.getElem_take]
 exact List.pairwise_iff_getElem.mp d j i (by exact bU5 hj) hi (by exact bU4 hj)
section
variable {G : Gl} {kvs rs : List Rw} {n o : List Nat} {st : Bool}
noncomputable abbrev ac7 (G : Gl) (w : String) (kvs : List Rw) : V := .tup [.str (lit w), .bool true, I6 G kvs]
theorem bC3 (hsy : ∃ o, G.B.get? sysModules = some o) (K : Kv kvs rs) (R : Rows rs) (hn : n.length ≤ 40) (ho : o.length ≤ 40) {Q : KS}
  (h0 : d9 n rs = [] → ∀ ρ σ, Q (.ret (ac7 G "not there" kvs)) ρ σ)
  (h1 : d9 n rs ≠ [] → WS G t0 (A2.drop 3) [I6 G kvs, .str n, .str o, .bool st, .lst (((d9 n rs).map (·.1)).map .str), .lst (((g0 n o rs).map (·.1)).map .str), .unb, .unb, .unb] σ0 Q) :
  WS G t0 A2 [I6 G kvs, .str n, .str o, .bool st, .unb, .unb, .unb, .unb, .unb] σ0 Q := by
 have hnum := R.num
 have hkl := K.len
 have e1 : ((rs.map (·.1)).filterMap fun t => if slice t none (some (n.length : Int)) == n then some (V.str t) else none) = ((d9 n rs).map (·.1)).map .str := by
  rw [H3 (fun t : List Nat => slice t none (some (n.length : Int)) == n) V.str, List.filter_map]
  unfold d9
  congr 3
  funext r
  show (slice r.1 none (some (n.length : Int)) == n) = _
  rw [B7, au3]
 refine J3 (caps := [1]) (Fv := V.str) (ts := rs.map (·.1)) 4 (fun t => if slice t none (some (n.length : Int)) == n then some (V.str t) else none) (Q6 .fz hsy (a8 0 rfl) (by exact bi4 hkl hnum) fun ks hp hs => by rw [K.keys hp hs]) rfl (by rw [List.length_map, C5]; exact aL0 hnum) (fun t ht => ?_) ?_
 ·obtain ⟨r, hr, rfl⟩ := List.mem_map.mp ht
  have hrl := R.len r hr
  exact V5 (d8 (E9 (a8 1 rfl) z9 (w7 (B9 (a8 0 rfl) (by exact aw5 hn))) (by rw [C5]; exact aV2 hrl)) (a8 0 rfl) J9) fun _ => a8 1 rfl
 rw [e1]
 refine f8 (d8 (a8 4 rfl) (z6 b9 sz0) ad6) (fun h => ?_) fun h => d6 ?_
 ·refine g8 (n6 (b8 (i0 (lit "not there")) (b8 y7 (b8 (a8 0 rfl) b9))) sz3) (h0 ?_ _ _)
  rw [List.map_map] at h
  exact List.map_eq_nil_iff.mp (List.isEmpty_iff.mp h)
 have hne : d9 n rs ≠ [] := fun e => by rw [e] at h; cases h
 have e2 : (((d9 n rs).map (·.1)).filterMap fun t => some (V.str (o ++ slice t (some (n.length : Int)) none))) = ((g0 n o rs).map (·.1)).map .str := by
  unfold g0 B8 d9
  rw [List.filterMap_eq_map', List.map_map, List.map_map, List.map_map, List.map_map]
  refine List.map_congr_left fun r _ => ?_
  show V.str (o ++ slice r.1 (some (n.length : Int)) none) = .str (o ++ r.1.drop n.length)
  rw [P8]
 refine J3 (caps := [1, 2]) (Fv := V.str) (ts := (d9 n rs).map (·.1)) 5 (fun t => some (V.str (o ++ slice t (some (n.length : Int)) none))) (a8 4 rfl) rfl ?_ (fun t ht => ?_) ?_
 ·have : (d9 n rs).length ≤ rs.length := List.length_filter_le ..
  rw [List.length_map, C5]; exact n8 _ _ (.k 1 c8 d5 (.k 1 d5 (.num 150) .o)) c8 (.num 16777216) tt this hnum
 ·obtain ⟨r, hr, rfl⟩ := List.mem_map.mp ht
  have hrl := R.len r (List.mem_filter.mp hr).1
  exact O2 (E7 (a8 1 rfl) (E9 (a8 2 rfl) (w7 (B9 (a8 0 rfl) (by exact aw5 hn))) z9 (by rw [C5]; exact aV2 hrl)) (by rw [C5, P8, List.length_drop]; exact bU1 ho hrl))
 rw [e2]
 exact h1 hne
theorem bs1 (hne : g0 n o rs ≠ []) (hl : ∀ r ∈ g0 n o rs, r.1.length ≤ 1000) (hk : (g0 n o rs).length ≤ 1000) {ρ : List V} {σ : Ow} {q q' q'' p p' p'' p₁ p₂ p₃ p₄ : Pos} {kc : Nat} {scope : Scope} (hv : ρ[5]? = some (.lst (((g0 n o rs).map (·.1)).map .str))) (hchk : N5 t0 [] ["_law_name"] scope = true) (hg : j8 (t0.comp [] ["_law_name"] scope) "len" = true) (hnm : w0 (t0.comp [] ["_law_name"] scope) 0 "_law_name" = true) :
  Tr G t0 ρ σ (.Compare (.Call (.Name "max" q) [.ListComp (.Call (.Name "len" q') [.Name "_law_name" q''] [] p) [⟨.Name "_law_name" p', .Name "_law_fresh" p'', [], 0⟩] scope p₁] [] p₂) [.Gt] [.Constant (.int 40) kc p₃] p₄) (decide (∃ r ∈ g0 n o rs, 40 < r.1.length)) := by
 have e : (((g0 n o rs).map (·.1)).filterMap fun t => some (V.int (t.length : Int))) = ((g0 n o rs).map fun r => (r.1.length : Int)).map .int := by
  rw [List.filterMap_eq_map', List.map_map, List.map_map]; rfl
 obtain ⟨m, hm, hu⟩ : ∃ m ∈ (g0 n o rs).map fun r => (r.1.length : Int), ∀ a ∈ (g0 n o rs).map fun r => (r.1.length : Int), a ≤ m := by
  have : ∀ l : List Int, l ≠ [] → ∃ m ∈ l, ∀ a ∈ l, a ≤ m := by
   intro l
   induction l with
   | nil => exact fun h => absurd rfl h
   | cons x l ih =>
    intro _
    by_cases h : l = []
    ·subst h; exact ⟨x, by simp, by simp⟩
    ·obtain ⟨m, hm, hu⟩ := ih h
     rcases Int.le_total x m with q | q
     ·exact ⟨m, List.mem_cons_of_mem _ hm, fun a ha => (List.mem_cons.mp ha).elim (fun e => e ▸ q) (hu a)⟩
     ·exact ⟨x, List.mem_cons_self .., fun a ha => (List.mem_cons.mp ha).elim (fun e => e ▸ Int.le_refl _) fun ha => Int.le_trans (hu a ha) q⟩
  exact this _ fun h => hne (List.map_eq_nil_iff.mp h)
 refine Tr.to (d8 (bB3 (ns := (g0 n o rs).map fun r => (r.1.length : Int)) (Ev.to (aa5 (caps := []) (Fv := V.str) (ts := (g0 n o rs).map (·.1)) (fun t => some (V.int (t.length : Int))) (a8 5 hv) rfl (by rw [List.length_map, C5]; exact aE1 hk) (fun t ht => ?_) hchk) (by rw [e])) hm hu) c9 P1) ?_
 ·obtain ⟨r, hr, rfl⟩ := List.mem_map.mp ht
  have := hl r hr
  exact O2 (B9 (a8 0 rfl rfl hnm) (by exact aE0 this) rfl hg)
 ·refine decide_eq_decide.mpr ⟨fun h => ?_, fun ⟨r, hr, h⟩ => ?_⟩
  ·obtain ⟨r, hr, rfl⟩ := List.mem_map.mp hm
   exact ⟨r, hr, by exact o5 _ (.k 1 (.add (.num 40) k9) c8 .o) (.add (.num 40) k9) c8 tt (Int.ofNat_lt.mp h)⟩
  ·have := hu _ (List.mem_map.mpr ⟨r, hr, rfl⟩)
   (exact bT9 this h)
end
theorem Y8 (σ : Ow) (a : Addr) (c c' : Oc) : (σ.put a c).put a c' = σ.put a c' := funext fun b => by
 unfold Ow.put
 split <;> rfl
theorem be8 {α : Type} {P : α → Prop} : ∀ {l : List α}, (∃ x ∈ l, P x) → ∃ (i : Nat) (x : α), l[i]? = some x ∧ P x ∧ ∀ (j : Nat) (y : α), j < i → l[j]? = some y → ¬ P y := am2
section
variable {G : Gl} {kvs rs : List Rw} {n o : List Nat} {st : Bool}
noncomputable abbrev ρB (G : Gl) (kvs rs : List Rw) (n o : List Nat) (st : Bool) (v6 v7 v8 : V) : List V := [I6 G kvs, .str n, .str o, .bool st, .lst (((d9 n rs).map (·.1)).map .str), .lst (((g0 n o rs).map (·.1)).map .str), v6, v7, v8]
theorem bs2 (hx : G.x = true) (hsy : ∃ o, G.B.get? sysModules = some o) (K : Kv kvs rs) (R : Rows rs) (hn : n.length ≤ 40) {Q : KS}
  (h : ∀ a v7, (a == sysModules) = false → WS G t0 (A2.drop 6) (ρB G kvs rs n o st (.ref a) v7 .unb) (σ0.put a (G9 G (S4 st n kvs))) Q) : WS G t0 (A2.drop 4) (ρB G kvs rs n o st .unb .unb .unb) σ0 Q := by
 have hnum := R.num
 have hkl := K.len
 refine as6 6 hx hsy fun a _ ha => ?_
 refine as7 (fun i ρ σ => σ = σ0.put a (G9 G ((kvs.take i).filter fun r => st || !(slice r.1 none (some (n.length : Int)) == n))) ∧ ∃ v7, ρ = ρB G kvs rs n o st (.ref a) v7 .unb) (a8 0 rfl) (aO4 trivial) ⟨rfl, _, rfl⟩ ?_ ?_
 ·rintro i ρ σ y hy ⟨rfl, v7, rfl⟩
  rw [List.getElem?_map] at hy
  obtain ⟨r, hr, rfl⟩ := Option.map_eq_some_iff.mp hy
  have hrm := List.mem_of_getElem? hr
  have hrl := R.len r (K.perm.mem_iff.mp hrm)
  have hlk : A8 kvs r.1 = some r.2 := (G6 K.d).mpr hrm
  have hi := (List.getElem?_eq_some_iff.mp hr).1
  have hfl : ((kvs.take i).filter fun r => st || !(slice r.1 none (some (n.length : Int)) == n)).length ≤ 10000 := Nat.le_trans (List.length_filter_le ..) (by rw [List.length_take]; exact bJ7 hkl hnum)
  refine ⟨_, C2 7, f8 (v1 (I1 (z8 (a8 3 rfl)) fun _ => x6 (d8 (E9 (a8 7 rfl) z9 (w7 (B9 (a8 1 rfl) (by exact aw5 hn))) (by rw [C5]; exact aV2 hrl)) (a8 1 rfl) R1))) (fun hb => ?_) fun hb => d6 (d6 ⟨?_, _, rfl⟩)⟩
  ·refine P5 (a8 6 rfl) (Ow.put_self ..) (a8 7 rfl) (ad4 .fz hsy (a8 0 rfl) (a8 7 rfl) hlk) hfl (d6 (d6 ⟨?_, _, rfl⟩))
   rw [Y8, I3 (am7 K.d hr), N2 hr, if_pos hb]
  ·rw [N2 hr, if_neg (by rw [hb]; exact Bool.false_ne_true), List.append_nil]
 ·rintro ρ σ ⟨rfl, v7, rfl⟩
  rw [List.length_map, List.take_length]
  exact h a v7 ha
theorem bh2 (hsy : ∃ o, G.B.get? sysModules = some o) {a : Addr} {base : List Rw} (hh : M3 base (g0 n o rs) = true) {v7 : V} {Q : KS} (hq : ∀ ρ σ, Q (.ret (ac7 G "taken" kvs)) ρ σ) :
  WS G t0 (A2.drop 6) (ρB G kvs rs n o st (.ref a) v7 .unb) (σ0.put a (G9 G base)) Q := by
 obtain ⟨j, r, hj, hr, hbef⟩ := be8 (P := fun r : Rw => r.1 ∈ base.map (·.1)) (av2 hh)
 refine D6 (fun i ρ σ => i ≤ j ∧ σ = σ0.put a (G9 G base) ∧ ∃ v7, ρ = ρB G kvs rs n o st (.ref a) v7 .unb) (a8 5 rfl) rfl ⟨Nat.zero_le _, rfl, _, rfl⟩ ?_ ?_
 ·rintro i ρ σ y hy ⟨hij, rfl, v7, rfl⟩
  rw [List.map_map, List.getElem?_map] at hy
  obtain ⟨q, hq', rfl⟩ := Option.map_eq_some_iff.mp hy
  refine ⟨_, C2 7, f8 (aw2 (.own (Ow.put_self ..)) hsy (n := q.1) (a8 7 rfl) (a8 6 rfl)) (fun _ => g8 (n6 (b8 (i0 (lit "taken")) (b8 y7 (b8 (a8 0 rfl) b9))) sz3) (hq _ _)) fun hb => d6 (d6 ⟨?_, rfl, _, rfl⟩)⟩
  rcases Nat.lt_or_ge i j with h | h
  ·exact h
  ·cases Nat.le_antisymm hij h
   cases hj.symm.trans hq'
   obtain ⟨t, ht, e⟩ := List.mem_map.mp hr
   have : A8 base r.1 = none := by cases q : A8 base r.1 with | none => rfl | some v => rw [q] at hb; cases hb
   exact absurd e (G3.mp this t ht)
 ·rintro ρ σ ⟨hij, _⟩
  have := (List.getElem?_eq_some_iff.mp hj).1
  rw [List.length_map, List.length_map] at hij
  (exact (f'2 _ _ (.k 1 i9 d5 (.k 1 d5 c8 .o)) tt this hij).elim)
theorem bs3 (hsy : ∃ o, G.B.get? sysModules = some o) {a : Addr} {base : List Rw} (hh : M3 base (g0 n o rs) = false) {v7 : V} {Q : KS} (h : ∀ v7, WS G t0 (A2.drop 7) (ρB G kvs rs n o st (.ref a) v7 .unb) (σ0.put a (G9 G base)) Q) :
  WS G t0 (A2.drop 6) (ρB G kvs rs n o st (.ref a) v7 .unb) (σ0.put a (G9 G base)) Q := by
 refine D6 (fun i ρ σ => σ = σ0.put a (G9 G base) ∧ ∃ v7, ρ = ρB G kvs rs n o st (.ref a) v7 .unb) (a8 5 rfl) rfl ⟨rfl, _, rfl⟩ ?_ ?_
 ·rintro i ρ σ y hy ⟨rfl, v7, rfl⟩
  rw [List.map_map, List.getElem?_map] at hy
  obtain ⟨q, hq', rfl⟩ := Option.map_eq_some_iff.mp hy
  have hno : A8 base q.1 = none := G3.mpr fun t ht e => al6 hh q (List.mem_of_getElem? hq') (List.mem_map.mpr ⟨t, ht, e⟩)
  exact ⟨_, C2 7, f8 (b := false) (Tr.to (aw2 (.own (Ow.put_self ..)) hsy (n := q.1) (a8 7 rfl) (a8 6 rfl)) (by rw [hno]; rfl)) nT fun _ => d6 (d6 ⟨rfl, _, rfl⟩)⟩
 ·rintro ρ σ ⟨rfl, v7, rfl⟩
  exact h v7
end
theorem aT0 {rs : List Rw} {n o : List Nat} (k : Nat) : (g0 n o rs)[k]? = (d9 n rs)[k]?.map fun r => (o ++ r.1.drop n.length, r.2) := by
 unfold g0 B8 d9
 rw [List.getElem?_map, List.getElem?_map, Option.map_map]
 rfl
theorem aJ0 {rs : List Rw} {n o : List Nat} : (g0 n o rs).length = (d9 n rs).length := by unfold g0 B8; rw [List.length_map, List.length_map]; rfl
section
variable {G : Gl} {kvs rs : List Rw} {n o : List Nat} {st : Bool}
theorem bC4 (hsy : ∃ o, G.B.get? sysModules = some o) (K : Kv kvs rs) (R : Rows rs) {a : Addr} {base : List Rw} (hb : base.length ≤ 1000) (d : Dst (base ++ g0 n o rs)) {v7 : V} {Q : KS}
  (h1 : 100 < base.length + (g0 n o rs).length → ∀ ρ σ, Q (.ret (ac7 G "too many" kvs)) ρ σ)
  (h2 : ¬ 100 < base.length + (g0 n o rs).length → ∀ ρ, Q (.ret (.tup [.str (lit "told"), .int (d9 n rs).length, .ref a])) ρ (σ0.put a (G9 G (base ++ g0 n o rs)))) :
  WS G t0 (A2.drop 7) (ρB G kvs rs n o st (.ref a) v7 .unb) (σ0.put a (G9 G base)) Q := by
 have hnum := R.num
 have hkl := K.len
 have hbl : (d9 n rs).length ≤ rs.length := List.length_filter_le ..
 have hfl := aJ0 (rs := rs) (n := n) (o := o)
 refine f8 (d8 (H5 (E6 (.own (Ow.put_self ..)) hsy (a8 6 rfl) (by exact bt6 hb)) (A6 (a8 5 rfl) (by rw [List.length_map, List.length_map]; exact z3 _ _ _ (.k 1 c8 d5 (.k 1 e9 (.num 150) (.k 1 d5 e9 .o))) i9 (.num 4611686018427387904) tt (Nat.le_of_eq hfl) hnum hbl))) c9 P1) (fun h => ?_) fun h => d6 ?_
 ·refine g8 (n6 (b8 (i0 (lit "too many")) (b8 y7 (b8 (a8 0 rfl) b9))) sz3) (h1 ?_ _ _)
  rw [List.length_map, List.length_map] at h
  have := of_decide_eq_true h
  (exact n8 _ _ (.k 1 (.add (.num 100) k9) (.add c8 d5) .o) (.add (.num 100) k9) (.add c8 d5) tt (Int.ofNat_lt.mp (of_decide_eq_true h)))
 have hno : ¬ 100 < base.length + (g0 n o rs).length := by
  rw [List.length_map, List.length_map] at h
  have := of_decide_eq_false h
  (exact fun u1 => (f'2 _ _ (.k 1 (.add c8 d5) (.num 100) (.k 1 (.add (.num 100) k9) (.add c8 d5) .o)) tt (Nat.le_of_not_lt (fun q => this (Int.ofNat_lt.mpr q))) u1))
 refine D6 (fun i ρ σ => σ = σ0.put a (G9 G (base ++ (g0 n o rs).take i)) ∧ ∃ v8, ρ = ρB G kvs rs n o st (.ref a) v7 v8) (G8 (i := (((d9 n rs).length : Nat) : Int)) ((A6 (a8 4 rfl) (by rw [List.length_map, List.length_map]; exact n8 _ _ (.k 1 c8 d5 (.k 1 d5 (.num 150) .o)) i9 (.num 4611686018427387904) tt hbl hnum)).to (by rw [List.length_map, List.length_map])) (by exact bE0 ) (by exact Int.ofNat_lt.mpr (n8 _ _ (.k 1 c8 d5 (.k 1 d5 (.num 150) .o)) i9 (.num 4611686018427387904) tt hbl hnum))) rfl ⟨by rw [List.take_zero, List.append_nil], _, rfl⟩ ?_ ?_
 ·rintro i ρ σ y hy ⟨rfl, v8, rfl⟩
  obtain ⟨hi, rfl⟩ := Y7 hy
  have hr : (d9 n rs)[i]? = some (d9 n rs)[i] := List.getElem?_eq_getElem hi
  generalize (d9 n rs)[i] = r at hr
  have hf : (g0 n o rs)[i]? = some (o ++ r.1.drop n.length, r.2) := by rw [aT0, hr]; rfl
  have hlk : A8 kvs r.1 = some r.2 := (G6 K.d).mpr (K.perm.mem_iff.mpr (List.mem_filter.mp (List.mem_of_getElem? hr)).1)
  refine ⟨_, C2 8, P5 (a8 6 rfl) (Ow.put_self ..) (B2 (a8 5 rfl) (a8 8 rfl) (n0 i) (by exact Int.ofNat_lt.mpr (z3 _ _ _ (.k 1 i9 d5 (.k 1 e9 (.num 150) (.k 1 d5 e9 .o))) i9 (.num 4611686018427387904) tt hi hnum hbl)) (by rw [Int.toNat_natCast, List.map_map, List.getElem?_map, hf]; rfl)) (ad4 .fz hsy (a8 0 rfl) (B2 (a8 4 rfl) (a8 8 rfl) (n0 i) (by exact Int.ofNat_lt.mpr (z3 _ _ _ (.k 1 i9 d5 (.k 1 e9 (.num 150) (.k 1 d5 e9 .o))) i9 (.num 4611686018427387904) tt hi hnum hbl)) (by rw [Int.toNat_natCast, List.map_map, List.getElem?_map, hr]; rfl)) hlk) ?_ (d6 ⟨?_, _, rfl⟩)⟩
  ·rw [List.length_append, List.length_take]; exact bU8 hb hi hnum hbl
  ·rw [Y8, I3, List.append_assoc]
   ·obtain ⟨hi', e⟩ := List.getElem?_eq_some_iff.mp hf
    rw [List.take_succ_eq_append_getElem hi', e]
   ·intro q hq
    obtain ⟨_, d2, d3⟩ := List.pairwise_append.mp d
    rcases List.mem_append.mp hq with hq | hq
    ·exact d3 q hq _ (List.mem_of_getElem? hf)
    ·exact am7 d2 hf (p := fun _ => true) q (List.mem_filter.mpr ⟨hq, rfl⟩)
 ·rintro ρ σ ⟨rfl, v8, rfl⟩
  rw [at5, ← hfl, List.take_length]
  exact g8 ((n6 (b8 (i0 (lit "told")) (b8 (A6 (a8 4 rfl) (by rw [List.length_map, List.length_map]; exact n8 _ _ (.k 1 c8 d5 (.k 1 d5 (.num 150) .o)) i9 (.num 4611686018427387904) tt hbl hnum)) (b8 (a8 6 rfl) b9))) sz3).to (by rw [List.length_map, List.length_map])) (h2 hno _)
noncomputable def C0 (G : Gl) (kvs rs : List Rw) (n o : List Nat) (st : Bool) : V :=
 if d9 n rs = [] then ac7 G "not there" kvs else if ∃ r ∈ g0 n o rs, 40 < r.1.length then ac7 G "too long" kvs else if M3 (S4 st n kvs) (g0 n o rs) = true then ac7 G "taken" kvs
 else if 100 < (S4 st n kvs).length + (g0 n o rs).length then ac7 G "too many" kvs else .tup [.str (lit "told"), .int (d9 n rs).length, I6 G (S4 st n kvs ++ g0 n o rs)]
theorem an2 {fr base : List Rw} (h : M3 base fr = false) (d : Dst base) (d' : Dst fr) : Dst (base ++ fr) := List.pairwise_append.mpr ⟨d, d', fun a ha b hb e => al6 h b hb (List.mem_map.mpr ⟨a, ha, e⟩)⟩
theorem bh0 (hx : G.x = true) (hsy : ∃ o, G.B.get? sysModules = some o) (FA : R7 G) (K : Kv kvs rs) (R : Rows rs) (hn : n.length ≤ 40) (ho : o.length ≤ 40) (hd : 0 < G.d) : Pure G "_law_branch" [I6 G kvs, .str n, .str o, .bool st] (C0 G kvs rs n o st) := by
 have hnum := R.num
 have hkl := K.len
 have T := P0 (b := n) (o := o) R R ho
 have hbl : (S4 st n kvs).length ≤ 1000 := Nat.le_trans (List.length_filter_le ..) (by exact n8 _ _ (.k 1 c8 d5 (.k 1 d5 (.num 150) .o)) c8 (.num 1000) tt (Nat.le_of_eq hkl) hnum)
 refine l7 FA rfl hd (bC3 (G := G.dn) hsy K R hn ho (fun h _ _ => ?_) fun h => ?_)
 ·show Res _ _ _; unfold C0; rw [if_pos h]; exact .id _
 have hne : g0 n o rs ≠ [] := fun e => h (I5.mp (aS9.mp e))
 refine f8 (bs1 (G := G.dn) hne (fun r hr => by have := T.len r hr; exact o5 _ (.k 1 c8 (.num 80) .o) c8 (.num 1000) tt this) (by have := T.num; exact o5 _ (.k 1 c8 (.num 150) .o) c8 (.num 1000) tt this) rfl (by decide +kernel) (by decide +kernel) (by decide +kernel)) (fun hl => g8 (n6 (b8 (i0 (lit "too long")) (b8 y7 (b8 (a8 0 rfl) b9))) sz3) ?_) fun hl => d6 (bs2 (G := G.dn) hx hsy K R hn fun a v7 ha => ?_)
 ·show Res _ _ _; unfold C0; rw [if_neg h, if_pos (of_decide_eq_true hl)]; exact .id _
 have hl' := of_decide_eq_false hl
 cases hh : M3 (S4 st n kvs) (g0 n o rs) with
 | true =>
  refine bh2 (G := G.dn) hsy hh fun _ _ => ?_
  show Res _ _ _; unfold C0; rw [if_neg h, if_neg hl', if_pos hh]; exact .id _
 | false =>
  have hh' : ¬ M3 (S4 st n kvs) (g0 n o rs) = true := by rw [hh]; exact Bool.false_ne_true
  refine bs3 (G := G.dn) hsy hh fun v7 => bC4 (G := G.dn) hsy K R hbl (an2 hh (K.d.filter _) T.srt.dst) (fun hm _ _ => ?_) fun hm _ => ?_
  ·show Res _ _ _; unfold C0; rw [if_neg h, if_neg hl', if_neg hh', if_pos hm]; exact .id _
  ·show Res _ _ _; unfold C0; rw [if_neg h, if_neg hl', if_neg hh', if_neg hm]; exact .tup (.cons (.id _) (.cons (.id _) (.cons (.gen (Ow.put_self ..) fun o h => ⟨ha, h⟩) .nil)))
end
noncomputable def af0 (way : Nat) (n : List Nat) (r : Rw) : Bool := ((((way : Int) == 2) && !(slice r.1 none (some (n.length : Int)) == n)) || (decide ((way : Int) < 2) && !(r.1 == n)))
theorem bA5 (n : List Nat) (kvs : List Rw) : kvs.filter (af0 2 n) = x8 n kvs := by
 unfold x8
 congr 1
 funext r
 unfold af0
 rw [B7, au3]
 show ((true && _) || (false && _)) = _
 rw [Bool.true_and, Bool.false_and, Bool.or_false]
theorem aO5 {way : Nat} (hw : way < 2) (n : List Nat) (kvs : List Rw) : kvs.filter (af0 way n) = k8 n kvs := by
 unfold k8
 congr 1
 funext r
 unfold af0
 rw [show ((way : Int) == 2) = false from beq_eq_false_iff_ne.mpr (by exact fun q => (fun u1 => (f'1 _ (.k 1 i9 I7 (.k 1 I7 c8 .o)) tt hw (Nat.le_of_eq (Eq.symm u1)))) (Int.ofNat_inj.mp q)), decide_eq_true (by exact Int.ofNat_lt.mpr (o5 _ (.k 1 i9 I7 .o) i9 I7 tt hw)), Bool.false_and, Bool.true_and, Bool.false_or]
section
variable {G : Gl} {kvs rs : List Rw} {n o : List Nat} {way : Nat} {num : Int} {other one : V} {b1 b2 : Bool}
noncomputable abbrev ρU (G : Gl) (kvs : List Rw) (way : Nat) (one other : V) (num : Int) (v5 v6 v7 : V) : List V := [I6 G kvs, .int way, one, other, .int num, v5, v6, v7]
theorem aa7 (FN : C7 G) (h1 : Td one b1) (h2 : Td other b2) (hd : 0 < G.d) {Q : KS} (hn : (!b1 || (decide ((2 : Int) < way) && !b2)) = true → ∀ ρ σ, Q (.ret (ac7 G "no name" kvs)) ρ σ)
  (h : (!b1 || (decide ((2 : Int) < way) && !b2)) = false → WS G P2 (P3.drop 1) (ρU G kvs way one other num .unb .unb .unb) σ0 Q) : WS G P2 P3 (ρU G kvs way one other num .unb .unb .unb) σ0 Q := by
 have o1 := h1.tx.ok
 have o2 := h2.tx.ok
 exact f8 (v1 (I1 (D7 (z8 (d7 (ah8 FN h1 hd) (b8 (a8 2 rfl o1) b9)))) fun _ => x6 (v1 (y2 (d8 (a8 1 rfl) c9 P1) fun _ => x6 (D7 (z8 (d7 (ah8 FN h2 hd) (b8 (a8 3 rfl o2) b9))))))))
  (fun hb => g8 (n6 (b8 (i0 (lit "no name")) (b8 y7 (b8 (a8 0 rfl) b9))) sz3) (hn hb _ _)) fun hb => d6 (h hb)
theorem am6 (hx : G.x = true) (hsy : ∃ o, G.B.get? sysModules = some o) (K : Kv kvs rs) (R : Rows rs) (hn : n.length ≤ 40) (ho : other.ok = true) (hw : way < 3) {Q : KS}
  (h : ∀ a v6, (a == sysModules) = false → WS G P2 (P3.drop 4) (ρU G kvs way (.str n) other num (.ref a) v6 .unb) (σ0.put a (G9 G (kvs.filter (af0 way n)))) Q) : WS G P2 (P3.drop 1) (ρU G kvs way (.str n) other num .unb .unb .unb) σ0 Q := by
 have hnum := R.num
 have hkl := K.len
 refine f8 (b := false) (Tr.to (d8 (a8 1 rfl) c9 P1) (decide_eq_false (by exact fun q => (fun u1 => (f'1 _ (.k 1 i9 R4 (.k 1 (.add I7 k9) c8 .o)) tt hw u1)) (Int.ofNat_lt.mp q)))) nT fun _ => d6 (as6 5 hx hsy fun a _ ha => ?_)
 refine as7 (fun i ρ σ => σ = σ0.put a (G9 G ((kvs.take i).filter (af0 way n))) ∧ ∃ v6, ρ = ρU G kvs way (.str n) other num (.ref a) v6 .unb) (a8 0 rfl) (aO4 trivial) ⟨rfl, _, rfl⟩ ?_ ?_
 ·rintro i ρ σ y hy ⟨rfl, v6, rfl⟩
  rw [List.getElem?_map] at hy
  obtain ⟨r, hr, rfl⟩ := Option.map_eq_some_iff.mp hy
  have hrm := List.mem_of_getElem? hr
  have hrl := R.len r (K.perm.mem_iff.mp hrm)
  have hlk : A8 kvs r.1 = some r.2 := (G6 K.d).mpr hrm
  have hfl : ((kvs.take i).filter (af0 way n)).length ≤ 10000 := Nat.le_trans (List.length_filter_le ..) (by rw [List.length_take]; exact bJ7 hkl hnum)
  refine ⟨_, C2 6, f8 (b := af0 way n r) (v1 (I1 (v1 (y2 (d8 (a8 1 rfl) c9 m7) fun _ => x6 (d8 (E9 (a8 6 rfl) z9 (w7 (B9 (a8 2 rfl) (by exact aw5 hn))) (by rw [C5]; exact aV2 hrl)) (a8 2 rfl) R1))) fun _ => x6 (v1 (y2 (d8 (a8 1 rfl) c9 as0) fun _ => x6 (d8 (a8 6 rfl) (a8 2 rfl) R1))))) (fun hb => ?_) fun hb => d6 (d6 ⟨?_, _, rfl⟩)⟩
  ·refine P5 (a8 5 rfl) (Ow.put_self ..) (a8 6 rfl) (ad4 .fz hsy (a8 0 rfl) (a8 6 rfl) hlk) hfl (d6 (d6 ⟨?_, _, rfl⟩))
   rw [Y8, I3 (am7 K.d hr), N2 hr, if_pos hb]
  ·rw [N2 hr, if_neg (by rw [hb]; exact Bool.false_ne_true), List.append_nil]
 ·rintro ρ σ ⟨rfl, v6, rfl⟩
  rw [List.length_map, List.take_length]
  exact h a v6 ha
noncomputable def aP1 (G : Gl) (kvs : List Rw) (n : List Nat) : V := if (x8 n kvs).length = kvs.length then ac7 G "not there" kvs else .tup [.str (lit "told"), .int ((kvs.length : Int) - (x8 n kvs).length), I6 G (x8 n kvs)]
noncomputable def aP2 (G : Gl) (kvs : List Rw) (n : List Nat) : V := if (k8 n kvs).length = kvs.length then ac7 G "not there" kvs else .tup [.str (lit "told"), ag2 kvs n, I6 G (k8 n kvs)]
noncomputable def aP3 (G : Gl) (kvs : List Rw) (n : List Nat) (num : Int) : V := if A8 kvs n = none ∧ kvs.length = 100 then ac7 G "too many" kvs else .tup [.str (lit "told"), ag2 kvs n, I6 G (k8 n kvs ++ [(n, num)])]
theorem aO6 (kvs : List Rw) (n : List Nat) : (ag2 kvs n).ok = true := by unfold ag2; split <;> rfl
theorem Z3 {a b : Nat} : ((a : Int) == (b : Int)) = true ↔ a = b := by rw [beq_iff_eq]; exact bP1
theorem aq8 (n : List Nat) (kvs : List Rw) : ∀ r ∈ k8 n kvs, r.1 ≠ n := fun r hr => by
 have := (List.mem_filter.mp hr).2
 intro e; rw [e, beq_self_eq_true] at this; cases this
theorem bC0 (hx : G.x = true) (hsy : ∃ o, G.B.get? sysModules = some o) (FA : K7 G) (FN : C7 G) (K : Kv kvs rs) (R : Rows rs) (hn : E1 n = true) (h1 : Td (.str n) true) (h2 : Td other b2) (hd : 2 ≤ G.d) : Pure G "_law_due" [I6 G kvs, .int (2 : Nat), .str n, other, .int num] (aP1 G kvs n) := by
 have hnum := R.num
 have hkl := K.len
 have hsl : (x8 n kvs).length ≤ kvs.length := List.length_filter_le ..
 refine l7 FA rfl (by exact aE2 hd) (aa7 (G := G.dn) FN h1 h2 (by show 0 < G.d - 1; exact aK7 hd) nT fun _ => am6 (G := G.dn) hx hsy K R (o0 hn) h2.tx.ok (by decide) fun a v6 ha => ?_)
 rw [bA5]
 refine f8 (v1 (y2 (d8 (a8 1 rfl) c9 P1) fun _ => x6 (d8 (E6 (.own (Ow.put_self ..)) hsy (a8 5 rfl) (by exact bs7 hsl hnum hkl)) (E6 .fz hsy (a8 0 rfl) (by exact bi4 hkl hnum)) m7))) (fun hb => g8 (n6 (b8 (i0 (lit "not there")) (b8 y7 (b8 (a8 0 rfl) b9))) sz3) ?_) fun hb => d6 ?_
 ·have : (x8 n kvs).length = kvs.length := Z3.mp (by simpa using hb)
  show Res _ _ _; unfold aP1; rw [if_pos this]; exact .id _
 ·have hne : ¬ (x8 n kvs).length = kvs.length := fun e => by rw [Z3.mpr e] at hb; cases hb
  refine f8 (b := true) (d8 (a8 1 rfl) c9 m7) (fun _ => g8 (n6 (b8 (i0 (lit "told")) (b8 (aJ2 (E6 .fz hsy (a8 0 rfl) (by exact bi4 hkl hnum)) (E6 (.own (Ow.put_self ..)) hsy (a8 5 rfl) (by exact bs7 hsl hnum hkl))) (b8 (a8 5 rfl) b9))) sz3) ?_) nF
  show Res _ _ _; unfold aP1; rw [if_neg hne]; exact .tup (.cons (.id _) (.cons (.id _) (.cons (.gen (Ow.put_self ..) fun o h => ⟨ha, h⟩) .nil)))
theorem bC1 (hx : G.x = true) (hsy : ∃ o, G.B.get? sysModules = some o) (FA : K7 G) (FN : C7 G) (K : Kv kvs rs) (R : Rows rs) (hn : E1 n = true) (h1 : Td (.str n) true) (h2 : Td other b2) (hd : 2 ≤ G.d) : Pure G "_law_due" [I6 G kvs, .int (1 : Nat), .str n, other, .int num] (aP2 G kvs n) := by
 have hnum := R.num
 have hkl := K.len
 have hsl : (k8 n kvs).length ≤ kvs.length := List.length_filter_le ..
 refine l7 FA rfl (by exact aE2 hd) (aa7 (G := G.dn) FN h1 h2 (by show 0 < G.d - 1; exact aK7 hd) nT fun _ => am6 (G := G.dn) hx hsy K R (o0 hn) h2.tx.ok (by decide) fun a v6 ha => ?_)
 rw [aO5 (by decide)]
 refine f8 (v1 (y2 (d8 (a8 1 rfl) c9 P1) fun _ => x6 (d8 (E6 (.own (Ow.put_self ..)) hsy (a8 5 rfl) (by exact bs7 hsl hnum hkl)) (E6 .fz hsy (a8 0 rfl) (by exact bi4 hkl hnum)) m7))) (fun hb => g8 (n6 (b8 (i0 (lit "not there")) (b8 y7 (b8 (a8 0 rfl) b9))) sz3) ?_) fun hb => d6 ?_
 ·have : (k8 n kvs).length = kvs.length := Z3.mp (by simpa using hb)
  show Res _ _ _; unfold aP2; rw [if_pos this]; exact .id _
 ·have hne : ¬ (k8 n kvs).length = kvs.length := fun e => by rw [Z3.mpr e] at hb; cases hb
  refine f8 (b := false) (d8 (a8 1 rfl) c9 m7) nT fun _ => d6 (f8 (b := false) (Tr.to (v1 (y2 (c := false) (d8 (a8 1 rfl) c9 m7) nofun)) rfl) nT fun _ => d6 (i8 7 (aP0 .fz hsy (a8 0 rfl) (a8 2 rfl)) (f8 (b := false) (d8 (a8 1 rfl) c9 m7) nT fun _ => d6 (g8 (n6 (b8 (i0 (lit "told")) (b8 (a8 7 rfl (aO6 _ _)) (b8 (a8 5 rfl) b9))) sz3) ?_))))
  show Res _ _ _; unfold aP2; rw [if_neg hne]; exact .tup (.cons (.id _) (.cons (.id _) (.cons (.gen (Ow.put_self ..) fun o h => ⟨ha, h⟩) .nil)))
theorem bC2 (hx : G.x = true) (hsy : ∃ o, G.B.get? sysModules = some o) (FA : K7 G) (FN : C7 G) (K : Kv kvs rs) (R : Rows rs) (hn : E1 n = true) (h1 : Td (.str n) true) (h2 : Td other b2) (hd : 2 ≤ G.d) : Pure G "_law_due" [I6 G kvs, .int (0 : Nat), .str n, other, .int num] (aP3 G kvs n num) := by
 have hnum := R.num
 have hkl := K.len
 have hsl : (k8 n kvs).length ≤ kvs.length := List.length_filter_le ..
 refine l7 FA rfl (by exact aE2 hd) (aa7 (G := G.dn) FN h1 h2 (by show 0 < G.d - 1; exact aK7 hd) nT fun _ => am6 (G := G.dn) hx hsy K R (o0 hn) h2.tx.ok (by decide) fun a v6 ha => ?_)
 rw [aO5 (by decide)]
 refine f8 (b := false) (Tr.to (v1 (y2 (c := false) (d8 (a8 1 rfl) c9 P1) nofun)) rfl) nT fun _ => d6 (f8 (b := false) (d8 (a8 1 rfl) c9 m7) nT fun _ => d6 ?_)
 refine f8 (v1 (y2 (d8 (a8 1 rfl) c9 m7) fun _ => y2 (aT8 .fz hsy (n := n) (a8 2 rfl) (a8 0 rfl)) fun _ => x6 (d8 (E6 .fz hsy (a8 0 rfl) (by exact bi4 hkl hnum)) c9 m7))) (fun hb => g8 (n6 (b8 (i0 (lit "too many")) (b8 y7 (b8 (a8 0 rfl) b9))) sz3) ?_) fun hb => d6 ?_
 ·have hc : A8 kvs n = none ∧ kvs.length = 100 := by
   obtain ⟨q1, q2⟩ := Bool.and_eq_true_iff.mp (by simpa using hb : ((!(A8 kvs n).isSome) && ((kvs.length : Int) == 100)) = true)
   refine ⟨?_, Z3 (b := 100) |>.mp q2⟩
   cases q : A8 kvs n with
   | none => rfl
   | some v => rw [q] at q1; cases q1
  show Res _ _ _; unfold aP3; rw [if_pos hc]; exact .id _
 ·have hne : ¬ (A8 kvs n = none ∧ kvs.length = 100) := fun ⟨q1, q2⟩ => by rw [q1, q2] at hb; cases hb
  refine i8 7 (aP0 .fz hsy (a8 0 rfl) (a8 2 rfl)) (f8 (b := true) (d8 (a8 1 rfl) c9 m7) (fun _ => P5 (a8 5 rfl) (Ow.put_self ..) (a8 2 rfl) (a8 4 rfl) (by exact bs7 hsl hnum hkl) (d6 (g8 (n6 (b8 (i0 (lit "told")) (b8 (a8 7 rfl (aO6 _ _)) (b8 (a8 5 rfl) b9))) sz3) ?_))) nF)
  rw [Y8, I3 (aq8 n kvs)]
  show Res _ _ _; unfold aP3; rw [if_neg hne]; exact .tup (.cons (.id _) (.cons (.id _) (.cons (.gen (Ow.put_self ..) fun o h => ⟨ha, h⟩) .nil)))
theorem bg7 (FA : K7 G) (FN : C7 G) (h1 : Td one b1) (h2 : Td other b2) (hb : (!b1 || (decide ((2 : Int) < way) && !b2)) = true) (hd : 2 ≤ G.d) : Pure G "_law_due" [I6 G kvs, .int way, one, other, .int num] (ac7 G "no name" kvs) :=
 l7 FA rfl (by exact aE2 hd) (aa7 (G := G.dn) FN h1 h2 (by show 0 < G.d - 1; exact aK7 hd) (fun _ _ _ => .id _) fun h => by rw [hb] at h; cases h)
theorem bg8 (hx : G.x = true) (hsy : ∃ o, G.B.get? sysModules = some o) (FA : K7 G) (FN : C7 G) (FB : R7 G) (K : Kv kvs rs) (R : Rows rs) (hn : E1 n = true) (ho : E1 o = true) (h1 : Td (.str n) true) (h2 : Td (.str o) true) (hw : 2 < way) (hd : 2 ≤ G.d) : Pure G "_law_due" [I6 G kvs, .int way, .str n, .str o, .int num] (C0 G kvs rs n o ((way : Int) == 4)) :=
 l7 FA rfl (by exact aE2 hd) (aa7 (G := G.dn) FN h1 h2 (by show 0 < G.d - 1; exact aK7 hd) (fun h => by rw [Bool.not_true, Bool.false_or, Bool.and_false] at h; cases h) fun _ => f8 (b := true) (Tr.to (d8 (a8 1 rfl) c9 P1) (decide_eq_true (by exact Int.ofNat_lt.mpr (o5 _ (.k 1 (.add I7 k9) c8 .o) (.add I7 k9) c8 tt hw)))) (fun _ => g8 (d7 (bh0 (G := G.dn) hx hsy FB K R (o0 hn) (o0 ho) (by show 0 < G.d - 1; exact aK7 hd)) (b8 (a8 0 rfl) (b8 (a8 2 rfl) (b8 (a8 3 rfl) (b8 (F0 (a8 1 rfl) c9 m7) b9))))) (.id _)) nF)
end
def IN (G : Gl) (C : Addr) (t : Str) (b : Bool) : Prop := ∃ T, G.mg t = some (.ref T) ∧ IXt G C (.ref T) b
noncomputable abbrev w1 (b : Bool) (w : Str) : List Str := if b then [w] else []
noncomputable abbrev wl (b1 b2 b3 b4 b5 b6 b7 : Bool) : List Str := ((((((([] ++ w1 b1 "no name") ++ w1 b2 "not there") ++ w1 b3 "too long") ++ w1 b4 "taken") ++ w1 b5 "too many") ++ w1 b6 "nothing done") ++ w1 b7 "no note")
section
variable {G : Gl} {C : Addr} {b1 b2 b3 b4 b5 b6 b7 : Bool} {cs : List Nat}
theorem aS1 (ys : List Str) (w : Str) (b : Bool) {n : Nat} (h : ys.length ≤ n) : (ys ++ if b then [w] else []).length ≤ n + 1 := by
 cases b <;> simp <;> (first | exact n8 _ _ (.k 1 c8 d5 .o) c8 y0 tt h | exact h)
theorem aQ6 (FA : F8 G) (hV : G.mg "ValueError" = none ∧ G.mb "ValueError" = some (.type "ValueError")) {x : Str} (X : XC G x C) (i1 : IN G C "NoName" b1) (i2 : IN G C "NotThere" b2) (i3 : IN G C "TooLong" b3) (i4 : IN G C "Taken" b4) (i5 : IN G C "TooMany" b5) (i6 : IN G C "NothingDone" b6) (i7 : IN G C "NoNote" b7)
  (hj : Txt.join ("" : Str) (wl b1 b2 b3 b4 b5 b6 b7) = txt cs) (hw : ((wl b1 b2 b3 b4 b5 b6 b7).map (·.length)).sum ≤ 10000) :
  ∀ A e F s E, G.Ok → (∀ a o, G.B.get? a = some o → F a = some o) → (∀ a o, F a = some o → s.heap.get? a = some o) → A.depth < recursionLimit → (∃ oe vs, s.heap.get? e = some oe ∧ oe.cls = .ref C ∧ oe.data = .fields vs) → wpAny G.M A (call (.ref (G.fn "_law_word_of")) [.ref e]) (PV G.x F s (.tup [.str cs, .bool true])) E s := fun A e F s E go base sub hd exc => by
 obtain ⟨T1, g1, j1⟩ := i1
 obtain ⟨T2, g2, j2⟩ := i2
 obtain ⟨T3, g3, j3⟩ := i3
 obtain ⟨T4, g4, j4⟩ := i4
 obtain ⟨T5, g5, j5⟩ := i5
 obtain ⟨T6, g6, j6⟩ := i6
 obtain ⟨T7, g7, j7⟩ := i7
 refine aZ5 FA.o rfl go base sub hd fun A env s₁ g loc kp hL rest => ?_
 refine bx8 g loc exc sub kp hL rest fun a s' k => ?_
 have l0 : ([] : List Str).length ≤ 0 := Nat.le_refl _
 have l1 := aS1 [] "no name" b1 l0
 have l2 := aS1 _ "not there" b2 l1
 have l3 := aS1 _ "too long" b3 l2
 have l4 := aS1 _ "taken" b4 l3
 have l5 := aS1 _ "too many" b5 l4
 have l6 := aS1 _ "nothing done" b6 l5
 refine ai4 j1 g1 k (by exact o5 _ (.k 1 c8 w9 .o) c8 (.num 100) tt l0) fun s' k => ai4 j2 g2 k (by exact o5 _ (.k 1 c8 (.add w9 k9) .o) c8 (.num 100) tt l1) fun s' k => ai4 j3 g3 k (by exact o5 _ (.k 1 c8 (.add (.add w9 k9) k9) .o) c8 (.num 100) tt l2) fun s' k => ai4 j4 g4 k (by exact o5 _ (.k 1 c8 (.add (.add (.add w9 k9) k9) k9) .o) c8 (.num 100) tt l3) fun s' k => ai4 j5 g5 k (by exact o5 _ (.k 1 c8 (.add (.add (.add (.add w9 k9) k9) k9) k9) .o) c8 (.num 100) tt l4) fun s' k => ai4 j6 g6 k (by exact o5 _ (.k 1 c8 (.add (.add (.add (.add (.add w9 k9) k9) k9) k9) k9) .o) c8 (.num 100) tt l5) fun s' k => ai4 j7 g7 k (by exact o5 _ (.k 1 c8 (.add (.add (.add (.add (.add (.add w9 k9) k9) k9) k9) k9) k9) .o) c8 (.num 100) tt l6) fun s' k => ?_
 exact bx7 (bA1 X).all hV k hw hj sub fun v s' q => ⟨v, rfl, q⟩
structure Bad (G : Gl) (x : Str) (C : Addr) (cs : List Nat) : Prop where
 cls : XC G x C
 te : ∃ T, XC G "TrailError" T
 m : O7 G.mg G.B x "TrailError"
 w : ∀ A e F s E, G.Ok → (∀ a o, G.B.get? a = some o → F a = some o) → (∀ a o, F a = some o → s.heap.get? a = some o) → A.depth < recursionLimit → (∃ oe vs, s.heap.get? e = some oe ∧ oe.cls = .ref C ∧ oe.data = .fields vs) → wpAny G.M A (call (.ref (G.fn "_law_word_of")) [.ref e]) (PV G.x F s (.tup [.str cs, .bool true])) E s
theorem br0 (FA : F8 G) {x : Str} (H : Bad G x C cs) (hd : 0 < G.d) {q q₁ pc pr : Pos} : ax0 G g9 "_law_e" C [.Return (some (.Call (.Name "_law_word_of" q) [.Name "_law_e" q₁] [] pc)) pr] (.tup [.str cs, .bool true]) := by
 obtain ⟨o, fd, h1, h2, h3, _⟩ := FA.obj
 exact bB8 h1 ⟨o, fd, h2, h3⟩ hd H.w
end
structure A0 (rs : List Rw) : Prop where
 r : Rows rs
 n : rs.length ≤ 100
 ok : ∀ r ∈ rs, r.1.all R8 = true
theorem U0 {rs : List Rw} (R : A0 rs) (P : Rw → Bool) : A0 (rs.filter P) :=
 have h := List.length_filter_le P rs
 ⟨⟨R.r.srt.filter _, fun r hr => R.r.len r (List.mem_filter.mp hr).1, Nat.le_trans h R.r.num⟩, Nat.le_trans h R.n, fun r hr => R.ok r (List.mem_filter.mp hr).1⟩
theorem ad0 {rs : List Rw} {n : List Nat} {v : Int} (R : A0 rs) (hn : E1 n = true) (hok : (!(s6 n rs).nn && decide ((100 : Int) ≤ rs.length)) = false) : A0 (y4 (k8 n rs ++ [(n, v)])) := by
 have h2 : (k8 n rs).length ≤ rs.length := List.length_filter_le ..
 have hlen : (k8 n rs ++ [(n, v)]).length ≤ 100 := by
  rw [List.length_append]
  show _ + 1 ≤ _
  have := R.n
  rcases V6 n rs with ⟨e, _⟩ | ⟨_, r, hr, e⟩
  ·rw [e] at hok
   have : decide ((100 : Int) ≤ rs.length) = false := (Bool.and_eq_false_iff.mp hok).resolve_left (by decide)
   have := of_decide_eq_false this
   (exact n8 _ _ (.k 1 c8 d5 (.k 1 y0 (.num 100) .o)) i9 (.num 100) tt h2 (Nat.lt_of_not_le (fun q => this (Int.ofNat_le.mpr q))))
  ·have : (k8 n rs).length < rs.length := by
    refine Nat.lt_of_le_of_ne h2 fun q => ?_
    have := List.filter_eq_self.mp (List.filter_sublist.eq_of_length q) r hr
    rw [e] at this
    simp at this
   (exact bU6 this ‹_›)
 refine ⟨aj4 (au1 R.r.srt) (fun r hr => ?_) (Nat.le_trans hlen (by decide)), by rw [(m8 _).length_eq]; exact hlen, fun r hr => ?_⟩
 ·rcases List.mem_append.mp hr with q | q
  ·exact R.r.len r (List.mem_filter.mp q).1
  ·rw [List.mem_singleton] at q; subst q; exact o0 hn
 ·rcases List.mem_append.mp ((m8 _).mem_iff.mp hr) with q | q
  ·exact R.ok r (List.mem_filter.mp q).1
  ·rw [List.mem_singleton] at q; subst q; exact (Bool.and_eq_true_iff.mp hn).2
section
variable {rs : List Rw}
theorem ar2 {n o : List Nat} (h : ∀ r ∈ d9 n rs, ¬ z5 n o r) : ∀ r ∈ g0 n o rs, r.1.length ≤ 40 := fun r hr => by
 obtain ⟨q, hq, rfl⟩ := List.mem_map.mp hr
 obtain ⟨u, hu, rfl⟩ := List.mem_map.mp hq
 have h1 := h u hu
 have hp := (List.isPrefixOf_iff_prefix.mp (List.mem_filter.mp hu).2).length_le
 show (o ++ u.1.drop n.length).length ≤ 40
 rw [List.length_append, List.length_drop]
 unfold z5 at h1
 (exact bU7 hp h1)
theorem be7 {n o : List Nat} (h : ∀ r ∈ rs, r.1.all R8 = true) (ho : o.all R8 = true) : ∀ r ∈ g0 n o rs, r.1.all R8 = true := fun r hr => by
 obtain ⟨q, hq, rfl⟩ := List.mem_map.mp hr
 obtain ⟨u, hu, rfl⟩ := List.mem_map.mp hq
 show (o ++ u.1.drop n.length).all R8 = true
 rw [List.all_append, ho, bi0 (h u (List.mem_filter.mp hu).1)]; rfl
theorem ar1 {n o : List Nat} : (g0 n o rs).length = (d9 n rs).length := by unfold g0 B8; rw [List.length_map, List.length_map]; rfl
theorem ak3 (n : List Nat) (rs : List Rw) : (x8 n rs).length + (d9 n rs).length = rs.length := by
 unfold x8 d9
 induction rs with
 | nil => rfl
 | cons r l ih =>
  rw [List.filter_cons, List.filter_cons]
  cases n.isPrefixOf r.1
  ·simp only [Bool.not_false, if_true, Bool.false_eq_true, if_false, List.length_cons]; exact Nat.le_antisymm (z3 _ _ _ (.k 1 (.add c8 d5) e9 .o) (.add i9 d5) D9 tt (Nat.le_of_eq ih)) (z3 _ _ _ (.k 1 c8 (.add d5 e9) .o) i9 (.add y0 e9) tt (Nat.le_of_eq (Eq.symm ih)))
  ·simp only [Bool.not_true, if_true, Bool.false_eq_true, if_false, List.length_cons]; exact Nat.le_antisymm (z3 _ _ _ (.k 1 (.add c8 d5) e9 .o) (.add c8 y0) D9 tt (Nat.le_of_eq ih)) (z3 _ _ _ (.k 1 c8 (.add d5 e9) .o) i9 (.add d5 D9) tt (Nat.le_of_eq (Eq.symm ih)))
theorem ai6 {st : List Rw} {n o : List Nat} (S : A0 st) (R : A0 rs) (ho : E1 o = true) (hl : ∀ r ∈ d9 n rs, ¬ z5 n o r) (hh : M3 st (g0 n o rs) = false) (hn : st.length + (d9 n rs).length ≤ 100) : A0 (y4 (st ++ g0 n o rs)) ∧ e8 100 (y4 (st ++ g0 n o rs)) = e8 50 (y4 (st ++ g0 n o rs)) := by
 have T := P0 (b := n) S.r R.r (o0 ho)
 have hlen : (st ++ g0 n o rs).length ≤ 100 := by rw [List.length_append, ar1]; exact hn
 have RR : Rows (y4 (st ++ g0 n o rs)) := aj4 (T.dst (al6 hh)) (fun r hr => (List.mem_append.mp hr).elim (S.r.len r) (ar2 hl r)) (Nat.le_trans hlen (by decide))
 exact ⟨⟨RR, by rw [(m8 _).length_eq]; exact hlen, fun r hr => (List.mem_append.mp ((m8 _).mem_iff.mp hr)).elim (S.ok r) (be7 (fun r hr => R.ok r hr) (Bool.and_eq_true_iff.mp ho).2 r)⟩, ay5 _ _ (RR.good (by decide) (by decide)) (RR.good (by decide) (by decide))⟩
end
structure CX (G : Gl) : Prop where
 nn : ∃ C, Bad G "NoName" C (lit "no name")
 nt : ∃ C, Bad G "NotThere" C (lit "not there")
 tl : ∃ C, Bad G "TooLong" C (lit "too long")
 tk : ∃ C, Bad G "Taken" C (lit "taken")
 tm : ∃ C, Bad G "TooMany" C (lit "too many")
 nd : ∃ C, Bad G "NothingDone" C (lit "nothing done")
section
variable {G : Gl} {C N dx b X : Addr} {mN : Str → Option Value} {fm : Str → Addr} {rs kvs : List Rw} {ps : List V} {ρ : List V} {σ : Ow} {Q : KS} {ss a : List Stmt} {p q pe pc : Pos} {kc k : Nat} {j : Int}
theorem y6 (hρ : ρ[1]? = some (.int k)) (h : WR G g9 ss ρ σ X) (hkj : ((k : Int) == j) = false := by rfl) : WR G g9 (.If (.Compare (.Name "_law_way" q) [.Eq] [.Constant (.int j) kc pc] p) a [] pe :: ss) ρ σ X :=
 ai3 (f8 (b := false) (Tr.to (d8 (a8 1 hρ) c9 m7) hkj) nT fun _ => d6 (d6 ⟨rfl, h⟩))
theorem V4 (hρ : ρ[1]? = some (.int k)) (h : WR G g9 a ρ σ X) (hkj : ((k : Int) == j) = true := by rfl) : WR G g9 (.If (.Compare (.Name "_law_way" q) [.Eq] [.Constant (.int j) kc pc] p) a [] pe :: ss) ρ σ X :=
 Y4 (b := true) (Tr.to (d8 (a8 1 hρ) c9 m7) hkj) (fun _ => h) nF
theorem y5 (hρ : ρ[1]? = some (.int k)) (h : WS G g9 ss ρ σ Q) (hkj : ((k : Int) == j) = false := by rfl) : WS G g9 (.If (.Compare (.Name "_law_way" q) [.Eq] [.Constant (.int j) kc pc] p) a [] pe :: ss) ρ σ Q :=
 f8 (b := false) (Tr.to (d8 (a8 1 hρ) c9 m7) hkj) nT fun _ => d6 h
theorem V3 (hρ : ρ[1]? = some (.int k)) (h : WS G g9 a ρ σ (Kc G g9 ss Q)) (hkj : ((k : Int) == j) = true := by rfl) : WS G g9 (.If (.Compare (.Name "_law_way" q) [.Eq] [.Constant (.int j) kc pc] p) a [] pe :: ss) ρ σ Q :=
 f8 (b := true) (Tr.to (d8 (a8 1 hρ) c9 m7) hkj) (fun _ => h) nF
noncomputable abbrev ρA (C dx : Addr) (k : Nat) (one other : V) (num : Int) : List V := [C3 C dx, .int k, one, other, .int num, .unb]
noncomputable def TB : List Stmt := match s9 with
 | .Try b _ _ _ _ :: _ => b
 | _ => []
theorem ai1 {k : V} (hne : dx ≠ b) : σB dx b k ps dx = some (.tr false k b) := (Ow.put_ne _ _ hne).trans (Ow.put_self ..)
theorem bb2 {k : V} (hne : dx ≠ b) : Ro (σB dx b k ps) (σR dx b k) := fun a c q => by
 by_cases h : a = dx
 ·subst h; cases (Ow.put_self ..).symm.trans q; exact ⟨rfl, _, ai1 hne, fun _ _ _ t => t⟩
 ·exact nS ((Ow.put_ne _ _ h).symm.trans q)
theorem bc6 (FW : F8 G) {x : Str} {cs : List Nat} (H : Bad G x X cs) (hx : G.x = false) (hd : 0 < G.d) (h : WR G g9 TB ρ σ X) : WS G g9 s9 ρ σ (ao1 (.tup [.str cs, .bool true])) :=
 H.te.elim fun T hT => bl0 hx h H.cls hT H.m (br0 FW H hd) fun _ _ => .id _
noncomputable abbrev aV5 (v : V) : V := .tup [.str (lit "told"), v]
abbrev an5 (dx b : Addr) (v : V) (rs rs' : List Rw) (ps : List V) : KS := trQ dx b fun x k' ps' => x = aV5 v ∧ k' = e8 50 rs' ∧ ps' = ps ++ [e8 50 rs]
theorem aN8 (M : CM G C N mN fm) (hne : dx ≠ b) (hd : 0 < G.d) {one other : V} {num : Int} {k : V} (ho : one.ok = true) (body : WR G.dn H6 H8 [C3 C dx, one, .int num, .unb] (σR dx b k) X) : WR G g9 TB (ρA C dx 0 one other num) (σB dx b k ps) X :=
 V4 rfl (E0 (i0 (lit "told")) (L0 M.t M.keep (ai1 hne) (bb2 hne) (a8 0 rfl) (b8 (a8 2 rfl ho) (b8 (a8 4 rfl) b9)) rfl hd body))
theorem aN9 (M : CM G C N mN fm) (hne : dx ≠ b) (hd : 0 < G.d) {one other : V} {num : Int} {k : V} (ho : one.ok = true) (body : WR G.dn H7 H9 [C3 C dx, one, .unb] (σR dx b k) X) : WR G g9 TB (ρA C dx 1 one other num) (σB dx b k ps) X :=
 y6 rfl (V4 rfl (E0 (i0 (lit "told")) (L0 M.t M.drop (ai1 hne) (bb2 hne) (a8 0 rfl) (b8 (a8 2 rfl ho) b9) rfl hd body)))
theorem aA9 (M : CM G C N mN fm) (hne : dx ≠ b) (hd : 0 < G.d) {one other : V} {num : Int} {k : V} (ho : one.ok = true) (body : WR G.dn F6 F7 [C3 C dx, one, .unb] (σR dx b k) X) : WR G g9 TB (ρA C dx 2 one other num) (σB dx b k ps) X :=
 y6 rfl (y6 rfl (V4 rfl (E0 (i0 (lit "told")) (L0 M.t M.prune (ai1 hne) (bb2 hne) (a8 0 rfl) (b8 (a8 2 rfl ho) b9) rfl hd body))))
theorem Z2 (M : CM G C N mN fm) (hne : dx ≠ b) (hd : 0 < G.d) {one other : V} {num : Int} {k : V} (ho : one.ok = true) (hoo : other.ok = true) (body : WR G.dn B5 B6 [C3 C dx, one, other, .unb] (σR dx b k) X) : WR G g9 TB (ρA C dx 3 one other num) (σB dx b k ps) X :=
 y6 rfl (y6 rfl (y6 rfl (V4 rfl (E0 (i0 (lit "told")) (L0 M.t M.move (ai1 hne) (bb2 hne) (a8 0 rfl) (b8 (a8 2 rfl ho) (b8 (a8 3 rfl hoo) b9)) rfl hd body)))))
theorem O6 (M : CM G C N mN fm) (hne : dx ≠ b) (hd : 0 < G.d) {one other : V} {num : Int} {k : V} (ho : one.ok = true) (hoo : other.ok = true) (body : WR G.dn y8 y9 [C3 C dx, one, other, .unb, .unb] (σR dx b k) X) : WR G g9 TB (ρA C dx 4 one other num) (σB dx b k ps) X :=
 y6 rfl (y6 rfl (y6 rfl (y6 rfl (V4 rfl (E0 (i0 (lit "told")) (L0 M.t M.graft (ai1 hne) (bb2 hne) (a8 0 rfl) (b8 (a8 2 rfl ho) (b8 (a8 3 rfl hoo) b9)) rfl hd body))))))
theorem X2 (h : WS G g9 TB ρ σ Q) (hq : ∀ ρ σ, ¬ Q .next ρ σ) : WS G g9 s9 ρ σ Q :=
 aQ5 (ag6 h fun fl ρ' σ' q => by cases fl; exact absurd q (hq _ _); exact q)
theorem aa8 {v : V} {rs rs' : List Rw} : ∀ ρ σ, ¬ an5 dx b v rs rs' ps .next ρ σ := fun ρ σ ⟨_, _, _, _, h, _⟩ => nomatch h
theorem aY7 (M : CM G C N mN fm) (hne : dx ≠ b) (R : A0 rs) {n : List Nat} (hn : E1 n = true) (hok : (!(s6 n rs).nn && decide ((100 : Int) ≤ rs.length)) = false) (hps : ps.length ≤ 1000) (hd : 130 ≤ G.d) {other : V} {num : Int} : WS G g9 s9 (ρA C dx 0 (.str n) other num) (σT σ0 dx b (e8 50 rs) ps) (an5 dx b (s6 n rs) rs (y4 (k8 n rs ++ [(n, num)])) ps) := by
 refine X2 (V3 rfl (M6 (L3 (i0 (lit "told")) (F4 M.t M.keep (s8 hne) G1 hne (a8 0 rfl) (b8 (a8 2 rfl) (b8 (a8 4 rfl) b9)) rfl (by exact aw4 hd) (aK4 M.dn hne R.r hn hok hps (by show 70 ≤ G.d - 1; exact bt4 hd)))) ?_)) aa8
 rintro z σ' ⟨y, rfl, k', ps', ⟨rfl, rfl, rfl⟩, rfl⟩
 exact ⟨_, _, s8 hne, G1, rfl, rfl, rfl⟩
theorem aY8 (M : CM G C N mN fm) (hne : dx ≠ b) (R : A0 rs) {n : List Nat} (hn : E1 n = true) (h : ∃ r ∈ rs, r.1 = n) (hps : ps.length ≤ 1000) (hd : 130 ≤ G.d) {other : V} {num : Int} : WS G g9 s9 (ρA C dx 1 (.str n) other num) (σT σ0 dx b (e8 50 rs) ps) (an5 dx b (s6 n rs) rs (k8 n rs) ps) := by
 refine X2 (y5 rfl (V3 rfl (M6 (L3 (i0 (lit "told")) (F4 M.t M.drop (s8 hne) G1 hne (a8 0 rfl) (b8 (a8 2 rfl) b9) rfl (by exact aw4 hd) (bC6 M.dn hne R.r hn h hps (by show 70 ≤ G.d - 1; exact bt4 hd)))) ?_))) aa8
 rintro z σ' ⟨y, rfl, k', ps', ⟨rfl, rfl, rfl⟩, rfl⟩
 exact ⟨_, _, s8 hne, G1, rfl, rfl, rfl⟩
theorem aQ3 (M : CM G C N mN fm) (hne : dx ≠ b) (R : A0 rs) {n : List Nat} (hn : E1 n = true) (h : d9 n rs ≠ []) (hps : ps.length ≤ 1000) (hd : 130 ≤ G.d) {other : V} {num : Int} : WS G g9 s9 (ρA C dx 2 (.str n) other num) (σT σ0 dx b (e8 50 rs) ps) (an5 dx b (.int (d9 n rs).length) rs (x8 n rs) ps) := by
 refine X2 (y5 rfl (y5 rfl (V3 rfl (M6 (L3 (i0 (lit "told")) (F4 M.t M.prune (s8 hne) G1 hne (a8 0 rfl) (b8 (a8 2 rfl) b9) rfl (by exact aw4 hd) (bs6 M.dn hne R.r hn h hps (by show 80 ≤ G.d - 1; exact bR8 hd)))) ?_)))) aa8
 rintro z σ' ⟨y, rfl, k', ps', ⟨rfl, rfl, rfl⟩, rfl⟩
 exact ⟨_, _, s8 hne, G1, rfl, rfl, rfl⟩
theorem aY6 (M : CM G C N mN fm) (hne : dx ≠ b) (R : A0 rs) {n o : List Nat} (hn : E1 n = true) (ho : E1 o = true) (h : d9 n rs ≠ []) (hl : ∀ r ∈ d9 n rs, ¬ z5 n o r) (hh : M3 (x8 n rs) (g0 n o rs) = false) (hps : ps.length ≤ 1000) (hd : 130 ≤ G.d) {num : Int} : A0 (y4 (x8 n rs ++ g0 n o rs)) ∧ WS G g9 s9 (ρA C dx 3 (.str n) (.str o) num) (σT σ0 dx b (e8 50 rs) ps) (an5 dx b (.int (d9 n rs).length) rs (y4 (x8 n rs ++ g0 n o rs)) ps) := by
 obtain ⟨RR, et⟩ := ai6 (n := n) (o := o) (U0 R fun r => !n.isPrefixOf r.1) R ho hl hh (by have := ak3 n rs; have := R.n; show (x8 n rs).length + _ ≤ _; exact bS3 ‹_› this)
 refine ⟨RR, X2 (y5 rfl (y5 rfl (y5 rfl (V3 rfl (M6 (L3 (i0 (lit "told")) (F4 M.t M.move (s8 hne) G1 hne (a8 0 rfl) (b8 (a8 2 rfl) (b8 (a8 3 rfl) b9)) rfl (by exact aw4 hd) (bC5 M.dn hne R.r hn ho h hl hh hps (by show 120 ≤ G.d - 1; exact bD8 hd)))) ?_))))) aa8⟩
 rintro z σ' ⟨y, rfl, k', ps', ⟨rfl, rfl, rfl⟩, rfl⟩
 exact ⟨_, _, s8 hne, G1, rfl, et, rfl⟩
theorem aQ4 (M : CM G C N mN fm) (hne : dx ≠ b) (R : A0 rs) {n o : List Nat} (hn : E1 n = true) (ho : E1 o = true) (h : d9 n rs ≠ []) (hl : ∀ r ∈ d9 n rs, ¬ z5 n o r) (hh : M3 rs (g0 n o rs) = false) (hf : ¬ (100 : Int) < (rs.length : Int) + (d9 n rs).length) (hps : ps.length ≤ 1000) (hd : 130 ≤ G.d) {num : Int} : A0 (y4 (rs ++ g0 n o rs)) ∧ WS G g9 s9 (ρA C dx 4 (.str n) (.str o) num) (σT σ0 dx b (e8 50 rs) ps) (an5 dx b (.int (d9 n rs).length) rs (y4 (rs ++ g0 n o rs)) ps) := by
 obtain ⟨RR, et⟩ := ai6 (n := n) (o := o) R R ho hl hh (by exact n8 _ _ (.k 1 (.add c8 d5) (.num 100) .o) (.add c8 d5) (.num 100) tt (Nat.le_of_not_lt (fun q => hf (Int.ofNat_lt.mpr q))))
 refine ⟨RR, X2 (y5 rfl (y5 rfl (y5 rfl (y5 rfl (V3 rfl (M6 (L3 (i0 (lit "told")) (F4 M.t M.graft (s8 hne) G1 hne (a8 0 rfl) (b8 (a8 2 rfl) (b8 (a8 3 rfl) b9)) rfl (by exact aw4 hd) (aP8 M.dn hne R.r hn ho h hl hh hf hps (by show 120 ≤ G.d - 1; exact bD8 hd)))) ?_)))))) aa8⟩
 rintro z σ' ⟨y, rfl, k', ps', ⟨rfl, rfl, rfl⟩, rfl⟩
 exact ⟨_, _, s8 hne, G1, rfl, et, rfl⟩
theorem Ro.same {σ : Ow} (h : ∀ a c, σ a = some c → c.rw = false) : Ro σ σ := fun a c q => ⟨h a c q, c, q, fun _ _ _ r => r⟩
theorem bG0 {k : V} : ∀ a c, σB dx b k ps a = some c → c.rw = false := fun a c q => by
 by_cases h : a = b
 ·subst h; cases (Ow.put_self ..).symm.trans q; rfl
 ·exact aH2 a c ((Ow.put_ne _ _ h).symm.trans q)
theorem bn8 (M : CM G C N mN fm) (hX : XC G "NothingDone" X) (hne : dx ≠ b) (hd : 0 < G.d) {one other : V} {num : Int} {k : V} : WR G g9 TB (ρA C dx 5 one other num) (σB dx b k []) X :=
 y6 rfl (y6 rfl (y6 rfl (y6 rfl (y6 rfl (y6 rfl (E0 (i0 (lit "told")) (L0 M.t M.back (ai1 hne) (Ro.same bG0) (a8 0 rfl) b9 rfl hd (bx5 M.dn hX hne))))))))
theorem aY9 (M : CM G C N mN fm) (hne : dx ≠ b) {rs' : List Rw} (hps : ps.length ≤ 1000) (hd : 130 ≤ G.d) {one other : V} {num : Int} : WS G g9 s9 (ρA C dx 5 one other num) (σT σ0 dx b (e8 50 rs) (ps ++ [e8 50 rs'])) (trQ dx b fun x k' ps' => x = aV5 .none ∧ k' = e8 50 rs' ∧ ps' = ps) := by
 refine X2 (y5 rfl (y5 rfl (y5 rfl (y5 rfl (y5 rfl (y5 rfl (M6 (L3 (i0 (lit "told")) (F4 M.t M.back (s8 hne) G1 hne (a8 0 rfl) b9 rfl (by exact aw4 hd) (bC7 M.dn hne hps))) ?_))))))) fun ρ σ ⟨_, _, _, _, h, _⟩ => nomatch h
 rintro z σ' ⟨y, rfl, k', ps', ⟨rfl, rfl, rfl⟩, rfl⟩
 exact ⟨_, _, s8 hne, G1, rfl, rfl, rfl⟩
end
theorem Z8 {st st' fr : List Rw} (p : st.Perm st') : M3 st fr = M3 st' fr := by
 unfold M3
 have : (fun r : Rw => (st.map (·.1)).contains r.1) = fun r => (st'.map (·.1)).contains r.1 := by
  funext r
  rw [Bool.eq_iff_iff, List.contains_iff_mem, List.contains_iff_mem]
  exact (p.map _).mem_iff
 rw [this]
theorem al3 {n o : List Nat} {rs : List Rw} : (∃ r ∈ g0 n o rs, 40 < r.1.length) ↔ ∃ r ∈ d9 n rs, z5 n o r := by
 constructor
 ·rintro ⟨r, hr, h⟩
  exact Classical.byContradiction fun q => absurd (ar2 (fun r hr t => q ⟨r, hr, t⟩) r hr) (by exact fun u1 => (f'1 _ (.k 1 (.add (.num 40) k9) c8 (.k 1 c8 (.num 40) .o)) tt h u1))
 ·rintro ⟨r, hr, h⟩
  refine ⟨(o ++ r.1.drop n.length, r.2), List.mem_map.mpr ⟨(r.1.drop n.length, r.2), List.mem_map.mpr ⟨r, hr, rfl⟩, rfl⟩, ?_⟩
  have hp := (List.isPrefixOf_iff_prefix.mp (List.mem_filter.mp hr).2).length_le
  show 40 < (o ++ r.1.drop n.length).length
  rw [List.length_append, List.length_drop]
  unfold z5 at h
  (exact bU3 h)
theorem Kv.stay {kvs rs : List Rw} (h : Kv kvs rs) (n : List Nat) : Kv (x8 n kvs) (x8 n rs) := h.filter _
theorem Kv.others {kvs rs : List Rw} (h : Kv kvs rs) (n : List Nat) : Kv (k8 n kvs) (k8 n rs) := h.filter _
theorem ak5 {n : List Nat} {rs : List Rw} : (k8 n rs).length = rs.length ↔ ∀ r ∈ rs, r.1 ≠ n := by
 unfold k8
 rw [List.length_filter_eq_length_iff]
 constructor
 ·intro h r hr e; have := h r hr; rw [e] at this; simp at this
 ·intro h r hr; simpa using h r hr
theorem aA0 {kvs rs : List Rw} (K : Kv kvs rs) {n : List Nat} {v : Int} : Dst (k8 n kvs ++ [(n, v)]) :=
 List.pairwise_append.mpr ⟨K.d.filter _, List.pairwise_singleton .., fun a ha b hb e => by rw [List.mem_singleton] at hb; subst hb; exact aq8 n kvs a ha e⟩
structure CF (G : Gl) : Prop where
 named : C7 G
 branch : R7 G
 due : K7 G
 word : F8 G
 sy : ∃ o, G.B.get? sysModules = some o
section
variable {G : Gl} {C N dx b X : Addr} {mN : Str → Option Value} {fm : Str → Addr} {rs kvs : List Rw} {ps : List V} {one other : V} {b1 b2 : Bool} {way : Nat} {num : Int}
abbrev af7 (G : Gl) (kvs : List Rw) (way : Nat) (one other : V) (num : Int) (z : V) : Prop := Pure G "_law_due" [I6 G kvs, .int way, one, other, .int num] z
def bx2 (G : Gl) (C dx b : Addr) (kvs rs : List Rw) (ps : List V) (way : Nat) (one other : V) (num : Int) : Prop :=
 ∃ w, w ≠ lit "told" ∧ af7 G kvs way one other num (.tup [.str w, .bool true, I6 G kvs]) ∧ WS G.dn g9 s9 (ρA C dx way one other num) (σB dx b (e8 50 rs) ps) (ao1 (.tup [.str w, .bool true]))
def bE4 (G : Gl) (C dx b : Addr) (kvs rs : List Rw) (ps : List V) (way : Nat) (one other : V) (num : Int) : Prop :=
 ∃ v kvs' rs', Pl 1 v ∧ A0 rs' ∧ Kv kvs' rs' ∧ af7 G kvs way one other num (.tup [.str (lit "told"), v, I6 G kvs']) ∧ WS G.dn g9 s9 (ρA C dx way one other num) (σT σ0 dx b (e8 50 rs) ps) (an5 dx b v rs rs' ps)
theorem aA2 (n : List Nat) (rs : List Rw) : Pl 1 (s6 n rs) := by unfold s6; split <;> first | exact .none 0 | exact .int 0 _
theorem aU6 (M : CM G C N mN fm) (L : CF G) (hne : dx ≠ b) (hps : ps.length ≤ 1000) (hd : 140 ≤ G.d) (R : A0 rs) (KV : Kv kvs rs) {n o : List Nat} (hn : E1 n = true) (ho : E1 o = true) (h1 : Td (.str n) true) (h2 : Td (.str o) true) (hw : 2 < way) {z : V} (hz : C0 G.ex kvs rs n o ((way : Int) == 4) = z) : af7 G kvs way (.str n) (.str o) num z :=
 hz ▸ (bg8 (G := G.ex) rfl L.sy L.due L.named L.branch KV R.r hn ho h1 h2 hw (by show 2 ≤ G.d; exact bi3 hd)).of_ex
theorem bI1 (M : CM G C N mN fm) (X : CX G.dn) (L : CF G) (hx : G.x = false) (hne : dx ≠ b) (R : A0 rs) (KV : Kv kvs rs) (hps : ps.length ≤ 1000) (hd : 140 ≤ G.d) (h1 : Td one b1) (h2 : Td other b2) (hw : way < 5) :
  bx2 G C dx b kvs rs ps way one other num ∨ bE4 G C dx b kvs rs ps way one other num := by
 have T1 := h1.tx
 have T2 := h2.tx
 have d0 : 139 ≤ G.dn.d := by show 139 ≤ G.d - 1; exact bJ8 hd
 have d1 : 138 ≤ G.dn.dn.d := by show 138 ≤ G.d - 1 - 1; exact bU2 hd
 have dp : 0 < G.dn.d := by exact o5 _ (.k 1 (.num 139) c8 .o) (.add w9 k9) c8 tt d0
 obtain ⟨Xn, hXn⟩ := X.nn
 obtain ⟨Xt, hXt⟩ := X.nt
 obtain ⟨Xk, hXk⟩ := X.tk
 obtain ⟨Xl, hXl⟩ := X.tl
 obtain ⟨Xm, hXm⟩ := X.tm
 have hkl := KV.len
 have hrn := R.n
 have no : ∀ {x : Str} {Xa : Addr} {w : List Nat}, Bad G.dn x Xa w → w ≠ lit "told" → af7 G kvs way one other num (.tup [.str w, .bool true, I6 G kvs]) → WR G.dn g9 TB (ρA C dx way one other num) (σB dx b (e8 50 rs) ps) Xa → bx2 G C dx b kvs rs ps way one other num := fun h0 hw hdu h => ⟨_, hw, hdu, bc6 (G := G.dn) L.word h0 hx dp h⟩
 have dueN : (!b1 || (decide ((2 : Int) < way) && !b2)) = true → af7 G kvs way one other num (ac7 G "no name" kvs) := fun hb => (bg7 (G := G.ex) L.due L.named h1 h2 hb (by show 2 ≤ G.d; exact bi3 hd)).of_ex
 have M' := M.dn
 have M2 := M.dn.dn
 have hcases : way = 0 ∨ way = 1 ∨ way = 2 ∨ way = 3 ∨ way = 4 := by exact bU0 hw
 cases ok1 : b1 with
 | false =>
  subst ok1
  have du := dueN rfl
  rcases hcases with rfl | rfl | rfl | rfl | rfl
  ·exact .inl (no hXn (by decide) du (aN8 M' hne dp T1.ok (bk7 M2 hXn.cls T1 (by exact aK9 d1))))
  ·exact .inl (no hXn (by decide) du (aN9 M' hne dp T1.ok (bk9 M2 hXn.cls T1 (by exact aK9 d1))))
  ·exact .inl (no hXn (by decide) du (aA9 M' hne dp T1.ok (aX8 M2 hXn.cls T1 (by exact aK9 d1))))
  ·exact .inl (no hXn (by decide) du (Z2 M' hne dp T1.ok T2.ok (bk5 M2 hXn.cls T1 T2.ok (by exact aK9 d1))))
  ·exact .inl (no hXn (by decide) du (O6 M' hne dp T1.ok T2.ok (aY4 M2 hXn.cls T1 (by exact aK9 d1))))
 | true =>
  subst ok1
  obtain ⟨n, rfl, h40, hn⟩ := T1.name
  rcases hcases with rfl | rfl | rfl | hw34
  ·have du := (bC2 (G := G.ex) (num := num) rfl L.sy L.due L.named KV R.r hn h1 h2 (by show 2 ≤ G.d; exact bi3 hd)).of_ex
   unfold aP3 at du
   cases hok : (!(s6 n rs).nn && decide ((100 : Int) ≤ rs.length)) with
   | true =>
    obtain ⟨q1, q2⟩ := Bool.and_eq_true_iff.mp hok
    have q3 : ∀ r ∈ rs, r.1 ≠ n := by
     rcases V6 n rs with ⟨_, h⟩ | ⟨⟨v, e⟩, _⟩
     ·exact h
     ·rw [e] at q1; cases q1
    rw [if_pos ⟨G3.mpr fun r hr => q3 r (KV.perm.mem_iff.mp hr), by have := of_decide_eq_true q2; exact Nat.le_antisymm (n8 _ _ (.k 1 c8 d5 (.k 1 d5 (.num 100) .o)) c8 (.num 100) tt (Nat.le_of_eq hkl) hrn) (n8 _ _ (.k 1 (.num 100) c8 (.k 1 c8 d5 .o)) (.num 100) d5 tt (Int.ofNat_le.mp (of_decide_eq_true q2)) (Nat.le_of_eq (Eq.symm hkl)))⟩] at du
    exact .inl (no hXm (by decide) du (aN8 M' hne dp rfl (bk6 M2 hXm.cls R.r hn hok (by exact o5 _ (.k 1 (.num 138) c8 .o) (.num 70) c8 tt d1))))
   | false =>
    rw [if_neg (by
     rintro ⟨q1, q2⟩
     have q3 := G3.mp q1
     rcases V6 n rs with ⟨e, _⟩ | ⟨_, r, hr, e⟩
     ·rw [e] at hok
      have := of_decide_eq_false ((Bool.and_eq_false_iff.mp hok).resolve_left (by decide))
      (exact f'2 _ _ (.k 1 (.num 100) c8 (.k 1 c8 d5 (.k 1 y0 (.num 100) .o))) tt (Nat.le_of_eq (Eq.symm q2)) (Nat.le_of_eq hkl) (Nat.lt_of_not_le (fun q => this (Int.ofNat_le.mpr q))))
     ·exact q3 r (KV.perm.mem_iff.mpr hr) e), KV.got n] at du
    exact .inr ⟨_, _, _, aA2 n rs, ad0 R hn hok, (KV.others n).app (aA0 KV), du, aY7 M' hne R hn hok hps (by exact bi2 d0)⟩
  ·have du := (bC1 (G := G.ex) (num := num) rfl L.sy L.due L.named KV R.r hn h1 h2 (by show 2 ≤ G.d; exact bi3 hd)).of_ex
   unfold aP2 at du
   by_cases h : ∃ r ∈ rs, r.1 = n
   ·rw [if_neg (fun e => by
     obtain ⟨r, hr, q⟩ := h
     exact ak5.mp e r (KV.perm.mem_iff.mpr hr) q), KV.got n] at du
    exact .inr ⟨_, _, _, aA2 n rs, U0 R _, KV.others n, du, aY8 M' hne R hn h hps (by exact bi2 d0)⟩
   ·have h' : ∀ r ∈ rs, r.1 ≠ n := fun r hr e => h ⟨r, hr, e⟩
    rw [if_pos (ak5.mpr fun r hr => h' r (KV.perm.mem_iff.mp hr))] at du
    exact .inl (no hXt (by decide) du (aN9 M' hne dp rfl (bk8 M2 hXt.cls R.r hn h' (by exact o5 _ (.k 1 (.num 138) c8 .o) (.num 70) c8 tt d1))))
  ·have du := (bC0 (G := G.ex) (num := num) rfl L.sy L.due L.named KV R.r hn h1 h2 (by show 2 ≤ G.d; exact bi3 hd)).of_ex
   unfold aP1 at du
   have pn := ak3 n rs
   have sl := (KV.stay n).len
   by_cases h : d9 n rs = []
   ·rw [if_pos (by rw [h] at pn; simp at pn; exact Nat.le_antisymm (I0 _ _ _ _ (.k 1 c8 d5 (.k 1 e9 o7 (.k 1 d5 e9 .o))) c8 o7 tt (Nat.le_of_eq sl) (Nat.le_of_eq (Eq.symm hkl)) (Nat.le_of_eq pn)) (I0 _ _ _ _ (.k 1 c8 d5 (.k 1 e9 o7 (.k 1 o7 c8 .o))) e9 d5 tt (Nat.le_of_eq (Eq.symm sl)) (Nat.le_of_eq hkl) (Nat.le_of_eq (Eq.symm pn))))] at du
    exact .inl (no hXt (by decide) du (aA9 M' hne dp rfl (aX7 M2 hXt.cls R.r hn h (by exact o5 _ (.k 1 (.num 138) c8 .o) (.num 80) c8 tt d1))))
   ·have hp : 0 < (d9 n rs).length := List.length_pos_iff.mpr h
    rw [if_neg (by exact fun u1 => (f'5 _ _ _ _ _ (.k 1 (.add c8 d5) e9 (.k 1 (.add w9 k9) d5 (.k 1 o7 c8 (.k 1 e9 A9 (.k 1 A9 o7 .o))))) tt (Nat.le_of_eq pn) hp (Nat.le_of_eq sl) (Nat.le_of_eq (Eq.symm hkl)) (Nat.le_of_eq (Eq.symm u1))))] at du
    refine .inr ⟨_, _, _, .int 0 _, U0 R _, KV.stay n, du, ?_⟩
    rw [show ((kvs.length : Int) - (x8 n kvs).length) = (d9 n rs).length by (exact bT8 pn hkl sl)]
    exact aQ3 M' hne R hn h hps (by exact bi2 d0)
  ·cases ok2 : b2 with
   | false =>
    subst ok2
    rcases hw34 with rfl | rfl
    ·exact .inl (no hXn (by decide) (dueN rfl) (Z2 M' hne dp rfl T2.ok (bk4 M2 hXn.cls hn T2 (by exact aK9 d1))))
    ·exact .inl (no hXn (by decide) (dueN rfl) (O6 M' hne dp rfl T2.ok (aY3 M2 hXn.cls hn T2 (by exact aK9 d1))))
   | true =>
    subst ok2
    obtain ⟨o, rfl, h40', ho⟩ := T2.name
    have du : ∀ {z : V}, C0 G.ex kvs rs n o ((way : Int) == 4) = z → af7 G kvs way (.str n) (.str o) num z := aU6 M L hne hps hd R KV hn ho h1 h2 (by exact Or.elim hw34 (fun u2 => (o5 _ (.k 1 R4 c8 .o) (.add I7 k9) c8 tt (Nat.le_of_eq (Eq.symm u2)))) (fun u3 => (o5 _ (.k 1 c'4 c8 .o) (.add I7 k9) c8 tt (Nat.le_of_eq (Eq.symm u3)))))
    have T := P0 (b := n) (o := o) R.r R.r (o0 ho)
    by_cases h : d9 n rs = []
    ·have du := du (by unfold C0; rw [if_pos h])
     rcases hw34 with rfl | rfl
     ·exact .inl (no hXt (by decide) du (Z2 M' hne dp rfl rfl (bk3 M2 hXt.cls R.r hn ho h (by exact aK8 d1))))
     ·exact .inl (no hXt (by decide) du (O6 M' hne dp rfl rfl (aY2 M2 hXt.cls R.r hn ho h (by exact aK8 d1))))
    ·by_cases hl : ∃ r ∈ d9 n rs, z5 n o r
     ·have du := du (by unfold C0; rw [if_neg h, if_pos (al3.mpr hl)])
      rcases hw34 with rfl | rfl
      ·exact .inl (no hXl (by decide) du (Z2 M' hne dp rfl rfl (bk2 M2 hXl.cls R.r hn ho h hl (by exact aK8 d1))))
      ·exact .inl (no hXl (by decide) du (O6 M' hne dp rfl rfl (aY1 M2 hXl.cls R.r hn ho h hl (by exact aK8 d1))))
     ·have hl' : ∀ r ∈ d9 n rs, ¬ z5 n o r := fun r hr q => hl ⟨r, hr, q⟩
      have hlf : ¬ ∃ r ∈ g0 n o rs, 40 < r.1.length := fun q => hl (al3.mp q)
      have fn := ar1 (rs := rs) (n := n) (o := o)
      have pn := ak3 n rs
      rcases hw34 with rfl | rfl
      ·have eb : S4 (((3 : Nat) : Int) == 4) n kvs = x8 n kvs := aK3 n kvs
       cases hh : M3 (x8 n rs) (g0 n o rs) with
       | true => exact .inl (no hXk (by decide) (du (by unfold C0; rw [if_neg h, if_neg hlf, eb, if_pos ((Z8 (KV.stay n).perm).trans hh)])) (Z2 M' hne dp rfl rfl (bk1 M2 hXk.cls R.r hn ho h hl' hh (by exact aK8 d1))))
       | false =>
        have hhk : M3 (x8 n kvs) (g0 n o rs) = false := (Z8 (KV.stay n).perm).trans hh
        have sl := (KV.stay n).len
        obtain ⟨RR, W⟩ := aY6 (num := num) (ps := ps) M' hne R hn ho h hl' hh hps (by exact bi2 d0)
        exact .inr ⟨_, _, _, .int 0 _, RR, (KV.stay n).app (an2 hhk (KV.stay n).d T.srt.dst), du (by unfold C0; rw [if_neg h, if_neg hlf, eb, if_neg (by rw [hhk]; exact Bool.false_ne_true), if_neg (by rw [fn]; exact fun u1 => (f'4 _ _ _ _ (.k 1 (.add c8 d5) e9 (.k 1 o7 c8 (.k 1 e9 (.num 100) (.k 1 (.add (.num 100) k9) (.add o7 d5) .o)))) tt (Nat.le_of_eq pn) (Nat.le_of_eq sl) hrn u1))]), W⟩
      ·have eb : S4 (((4 : Nat) : Int) == 4) n kvs = kvs := aU7 n kvs
       cases hh : M3 rs (g0 n o rs) with
       | true => exact .inl (no hXk (by decide) (du (by unfold C0; rw [if_neg h, if_neg hlf, eb, if_pos ((Z8 KV.perm).trans hh)])) (O6 M' hne dp rfl rfl (aY0 M2 hXk.cls R.r hn ho h hl' hh (by exact aK8 d1))))
       | false =>
        have hhk : M3 kvs (g0 n o rs) = false := (Z8 KV.perm).trans hh
        by_cases hf : (100 : Int) < (rs.length : Int) + (d9 n rs).length
        ·exact .inl (no hXm (by decide) (du (by unfold C0; rw [if_neg h, if_neg hlf, eb, if_neg (by rw [hhk]; exact Bool.false_ne_true), if_pos (by rw [fn]; exact z3 _ _ _ (.k 1 (.add (.num 100) k9) (.add c8 d5) (.k 1 c8 e9 .o)) (.add (.num 100) k9) (.add e9 d5) tt (Int.ofNat_lt.mp hf) (Nat.le_of_eq (Eq.symm hkl)))])) (O6 M' hne dp rfl rfl (aX9 M2 hXm.cls R.r hn ho h hl' hh hf (by exact aK8 d1))))
        ·obtain ⟨RR, W⟩ := aQ4 (num := num) (ps := ps) M' hne R hn ho h hl' hh hf hps (by exact bi2 d0)
         exact .inr ⟨_, _, _, .int 0 _, RR, KV.app (an2 hhk KV.d T.srt.dst), du (by unfold C0; rw [if_neg h, if_neg hlf, eb, if_neg (by rw [hhk]; exact Bool.false_ne_true), if_neg (by rw [fn]; exact fun u1 => (f'3 _ _ _ (.k 1 c8 d5 (.k 1 (.add d5 e9) (.num 100) (.k 1 (.add (.num 100) k9) (.add c8 e9) .o))) tt (Nat.le_of_eq hkl) (Nat.le_of_not_lt (fun q => hf (Int.ofNat_lt.mpr q))) u1))]), W⟩
end
section
variable {G : Gl} {C N dx b ka X : Addr} {mN : Str → Option Value} {fm : Str → Addr} {rs kvs : List Rw} {ps kp : List V} {ρ : List V} {σ : Ow} {Q : KS}
theorem bn7 (M : CM G C N mN fm) (hX : XC G.dn "NoName" X) {one : V} {k : V} {w : Bool} (h : Tx one false) (hσ : σ dx = some (.tr w k b)) (hd : 5 ≤ G.d) : WR G g9 TB (ρA C dx 6 one .none 0) σ X :=
 y6 rfl (y6 rfl (y6 rfl (y6 rfl (y6 rfl (V4 rfl (E0 (i0 (lit "told")) (L0 M.t M.told hσ (az5 hσ) (a8 0 rfl) (b8 (a8 2 rfl h.ok) b9) rfl (by exact o5 _ (.k 1 c'5 c8 .o) (.add w9 k9) c8 tt hd) (I8 (C4 M.dn hX h (by show 3 ≤ G.d - 1; exact bS1 hd)) (b8 (a8 1 rfl h.ok) b9)))))))))
theorem aY5 (M : CM G C N mN fm) (R : Rows rs) {n : List Nat} {w : Bool} (hn : E1 n = true) (hσ : σ dx = some (.tr w (e8 50 rs) b)) (hd : 70 ≤ G.d) : WS G g9 s9 (ρA C dx 6 (.str n) .none 0) σ (bn4 (fun a => aV5 (.ref a)) ((d9 n rs).map l9)) := by
 have h40 := o0 hn
 have hT : Tx (.str n) true := hn ▸ Tx.str n (by exact M4 h40)
 refine X2 (y5 rfl (y5 rfl (y5 rfl (y5 rfl (y5 rfl (V3 rfl (M6 (L3 (i0 (lit "told")) (aT3 (mk := .ref) (zs := (d9 n rs).map l9) M.t M.told hσ (az5 hσ) (a8 0 rfl) (b8 (a8 2 rfl) b9) rfl (by exact aL1 hd) (n9 (d7 (j0 M.dn hT (by show 3 ≤ G.d - 1; exact bK4 hd)) (b8 (a8 1 rfl) b9)) (M6 (bq2 (ab0 M.p.dn R h40 (by show 60 ≤ G.d - 1; exact bt7 hd)) (b8 (w5 M.t.dn (Ow.put_self ..) (a8 0 rfl)) (b8 (a8 1 rfl) b9))) ?_)))) ?_))))))) fun ρ σ ⟨_, h, _⟩ => nomatch h
 ·rintro x σ' ⟨a, _, rfl, rfl⟩
  exact ⟨a, rfl, Ow.set_self ..⟩
 ·rintro z σ' ⟨y, rfl, a, _, rfl, rfl⟩
  exact ⟨a, rfl, Ow.set_self ..⟩
noncomputable abbrev σK (dx b ka : Addr) (k : V) (kp : List V) : Ow := (σ0.put dx (.tr false k b)).set ka kp
noncomputable abbrev Y9 (rs : List Rw) : V := .tup [.lst (rs.map l9), .lst (rs.map l9)]
theorem au4 {n : Nat} (rs : List Rw) (hl : rs.length ≤ 1000) : Pl (n + 3) (.lst (rs.map l9)) := .lst _ (by rw [List.length_map, C5]; exact aE1 hl) fun x hx => by
 obtain ⟨r, _, rfl⟩ := List.mem_map.mp hx
 exact .tup _ (by rw [C5]; show 2 ≤ _; exact W3 ) fun y hy => by
  rcases List.mem_cons.mp hy with rfl | hy
  ·exact .str _ _
  ·rw [List.mem_singleton.mp hy]; exact .int _ _
theorem as3 (rs : List Rw) : d9 [] rs = rs := List.filter_eq_self.mpr fun _ _ => rfl
structure CT (G : Gl) : Prop where
 f : CF G
 alike : af9 G
 whole : U8 G
 tried : aF7 G
def bK5 (ka : Addr) (kp : List V) (rs : List Rw) : KS := fun fl _ σ => fl = .ret (.bool true) ∧ (σ ka = some (.lst kp) ∨ σ ka = some (.lst (kp ++ [Y9 rs])))
theorem br7 (M : CM G C N mN fm) (X : CX G.dn) (L : CT G) (hx : G.x = false) (hne : dx ≠ ka) (R : A0 rs) (KV : Kv kvs rs) {start : V} {b1 : Bool} (h1 : Td start b1) (hkp : kp.length ≤ 10000) (hd : 140 ≤ G.d) :
  WS G af6 af8 [C3 C dx, start, I6 G kvs, .ref ka, .unb, .unb, .unb, .unb] (σK dx b ka (e8 50 rs) kp) (bK5 ka kp rs) := by
 have T1 := h1.tx
 have o1 := T1.ok
 have d0 : 139 ≤ G.dn.d := by show 139 ≤ G.d - 1; exact bJ8 hd
 have hkl := KV.len
 have hrn := R.n
 have hdx : σK dx b ka (e8 50 rs) kp dx = some (.tr false (e8 50 rs) b) := (Ow.set_ne _ _ hne).trans (Ow.put_self ..)
 refine i8 4 (n6 (b8 (i0 (lit "no name")) (b8 y7 b9)) (by rw [C5]; show 2 ≤ _; exact W3 )) ?_
 cases b1 with
 | false =>
  refine f8 (b := false) (z8 (d7 (ah8 L.f.named h1 (by exact aV4 hd)) (b8 (a8 1 rfl o1) b9))) nT fun _ => d6 ?_
  obtain ⟨Xn, hXn⟩ := X.nn
  have ap : Pl 3 (.tup [.str (lit "no name"), .bool true]) := .tup _ (by rw [C5]; show 2 ≤ _; exact W3 ) fun y hy => by
   rcases List.mem_cons.mp hy with rfl | hy
   ·exact .str _ _
   ·rw [List.mem_singleton.mp hy]; exact .tru _
  refine i8 5 (aC7 L.tried (az5 hdx) (b8 (a8 0 rfl) (b8 c9 (b8 (a8 1 rfl o1) (b8 o9 (b8 c9 b9))))) rfl (by exact aV4 hd) (bc6 (G := G.dn) L.f.word hXn hx (by exact o5 _ (.k 1 (.num 139) c8 .o) (.add w9 k9) c8 tt d0) (bn7 M.dn hXn.cls T1 (Ow.put_self ..) (by exact o5 _ (.k 1 (.num 139) c8 .o) c'5 c8 tt d0)))) ?_
  refine f8 (b := true) (v1 (I1 (c := true) (D7 (z8 (d7 (K5 3 L.alike L.whole ap (by exact o5 _ (.k 1 (.num 140) c8 .o) (.add R4 k9) c8 tt hd)) (b8 (a8 5 rfl) (b8 (a8 4 rfl) b9))))) fun _ => x6 (d8 (o6 (a8 4 rfl) c9 (by decide) (by decide) rfl) (i0 (lit "told")) R1))) (fun _ => g8 (Q9 (H4 (F0 (o6 (a8 4 rfl) c9 (by decide) (by decide) rfl) (i0 (lit "told")) R1) fun _ => Q5 (d7 (K5 3 L.alike L.whole ap (by exact o5 _ (.k 1 (.num 140) c8 .o) (.add R4 k9) c8 tt hd)) (b8 (a8 5 rfl) (b8 (a8 4 rfl) b9))))) ⟨rfl, .inl (Ow.set_self ..)⟩) nF
 | true =>
  obtain ⟨n, rfl, h40, hn⟩ := T1.name
  have hbl : (d9 n rs).length ≤ rs.length := List.length_filter_le ..
  have e1 : (rs.filterMap fun r : Rw => if slice r.1 none (some (n.length : Int)) == n then some (l9 r) else none) = (d9 n rs).map l9 := by
   rw [H3 (fun r : Rw => slice r.1 none (some (n.length : Int)) == n) l9]
   unfold d9
   congr 2
   funext r
   show (slice r.1 none (some (n.length : Int)) == n) = _
   rw [B7, au3]
  refine f8 (b := true) (z8 (d7 (ah8 L.f.named h1 (by exact aV4 hd)) (b8 (a8 1 rfl) b9))) (fun _ => i8 4 (n6 (b8 (i0 (lit "told")) (b8 (aa5 (caps := [1, 2]) (Fv := fun r : Rw => V.str r.1) (ts := rs) (fun r => if slice r.1 none (some (n.length : Int)) == n then some (l9 r) else none) (Q6 .fz L.f.sy (a8 2 rfl) (by exact aV3 hkl hrn) fun ks hp hs => by rw [KV.keys hp hs]) (by show some _ = some _; rw [List.map_map]; rfl) (by rw [C5]; exact bt2 hrn) (fun r hr => ?_)) b9)) (by rw [C5]; show 2 ≤ _; exact W3 )) (d6 ?_)) nF
  ·have hrl := R.r.len r hr
   exact V5 (d8 (E9 (a8 2 rfl) z9 (w7 (B9 (a8 0 rfl) (by exact aw5 h40))) (by rw [C5]; exact aV2 hrl)) (a8 0 rfl) J9) fun _ => n6 (b8 (a8 2 rfl) (b8 (ad4 .fz L.f.sy (a8 1 rfl) (a8 2 rfl) ((G6 KV.d).mpr (KV.perm.mem_iff.mpr hr))) b9)) (by rw [C5]; show 2 ≤ _; exact W3 )
  rw [e1]
  have zl : ((d9 n rs).map l9).length ≤ 100 := by rw [List.length_map]; exact n8 _ _ (.k 1 c8 d5 (.k 1 d5 (.num 100) .o)) c8 (.num 100) tt hbl hrn
  have ap : Pl 5 (aV5 (.lst ((d9 n rs).map l9))) := .tup _ (by rw [C5]; show 2 ≤ _; exact W3 ) fun y hy => by
   rcases List.mem_cons.mp hy with rfl | hy
   ·exact .str _ _
   ·rw [List.mem_singleton.mp hy]; exact au4 _ (by exact n8 _ _ (.k 1 c8 d5 (.k 1 d5 (.num 100) .o)) c8 (.num 1000) tt hbl hrn)
  have yt := fun {σ : Ow} {w : Bool} (h : σ dx = some (.tr w (e8 50 rs) b)) => aY5 (G := G.dn) (σ := σ) M.dn R.r hn h (by exact o5 _ (.k 1 (.num 139) c8 .o) (.num 70) c8 tt d0)
  refine ag7 5 (ar6 L.tried (az5 hdx) (b8 (a8 0 rfl) (b8 c9 (b8 (a8 1 rfl) (b8 o9 (b8 c9 b9))))) rfl (by exact aV4 hd) (yt (Ow.put_self ..))) ?_
  rintro x σ' ⟨a, ha, rfl, rfl⟩
  have nadx : dx ≠ a := by rintro rfl; exact nS (ha.symm.trans hdx)
  have naka : ka ≠ a := by rintro rfl; exact nS (ha.symm.trans (Ow.set_self ..))
  refine f8 (b := false) (Tr.to (v1 (I1 (D7 (z8 (aC6 (K5 5 L.alike L.whole ap (by exact o5 _ (.k 1 (.num 140) c8 .o) (.add c'5 k9) c8 tt hd)) (Ow.set_self ..) (b8 (a8 5 rfl) (b8 (a8 4 rfl) b9)) (.cons (.tup (.cons (.id _) (.cons (.frz (Ow.set_self ..)) .nil))) (.cons (.id _) .nil))))) fun _ => x6 (d8 (o6 (a8 4 rfl) c9 (by decide) (by decide) rfl) (i0 (lit "told")) R1))) (by rw [beq_self_eq_true]; rfl)) nT fun _ => d6 ?_
  refine B0 (o6 (a8 5 rfl) c9 (by decide) (by decide) rfl) (Ow.set_self ..) (n6 (b8 (i0 (lit "")) (b8 c9 b9)) (by rw [C5]; show 2 ≤ _; exact W3 )) (by rw [C5]; exact bt2 zl) ?_
  have hdx₂ : (((σK dx b ka (e8 50 rs) kp).set a ((d9 n rs).map l9)).set a ((d9 n rs).map l9 ++ [.tup [.str (lit ""), .int 0]])) dx = some (.tr false (e8 50 rs) b) := (Ow.set_ne _ _ nadx).trans ((Ow.set_ne _ _ nadx).trans hdx)
  refine i8 6 (bf2 M R.r hdx₂ (a8 0 rfl) (i0 (lit "")) rfl (by exact o5 _ (.k 1 (.num 140) c8 .o) (.num 70) c8 tt hd)) ?_
  rw [show d9 (lit "") rs = rs from as3 rs]
  have rl : (rs.map l9).length ≤ 100 := by rw [List.length_map]; exact hrn
  have hka₂ : (((σK dx b ka (e8 50 rs) kp).set a ((d9 n rs).map l9)).set a ((d9 n rs).map l9 ++ [.tup [.str (lit ""), .int 0]])) ka = some (.lst kp) := (Ow.set_ne _ _ naka).trans ((Ow.set_ne _ _ naka).trans (Ow.set_self ..))
  refine B0 (a8 3 rfl) hka₂ (n6 (b8 (a8 6 rfl) (b8 (bf5 (a8 6 rfl) (by rw [C5]; exact bt2 rl)) b9)) (by rw [C5]; show 2 ≤ _; exact W3 )) (by rw [C5]; exact aw3 hkp) ?_
  have hdx₃ := (Ow.set_ne (((σK dx b ka (e8 50 rs) kp).set a ((d9 n rs).map l9)).set a ((d9 n rs).map l9 ++ [.tup [.str (lit ""), .int 0]])) (kp ++ [Y9 rs]) hne).trans hdx₂
  have haa := (Ow.set_ne (((σK dx b ka (e8 50 rs) kp).set a ((d9 n rs).map l9)).set a ((d9 n rs).map l9 ++ [.tup [.str (lit ""), .int 0]])) (kp ++ [Y9 rs]) naka.symm).trans (Ow.set_self ..)
  have hka₃ := Ow.set_self (((σK dx b ka (e8 50 rs) kp).set a ((d9 n rs).map l9)).set a ((d9 n rs).map l9 ++ [.tup [.str (lit ""), .int 0]])) ka (kp ++ [Y9 rs])
  generalize (((σK dx b ka (e8 50 rs) kp).set a ((d9 n rs).map l9)).set a ((d9 n rs).map l9 ++ [.tup [.str (lit ""), .int 0]])).set ka (kp ++ [Y9 rs]) = σ₃ at hdx₃ haa hka₃ ⊢
  refine ag7 7 (ar6 L.tried (az5 hdx₃) (b8 (a8 0 rfl) (b8 c9 (b8 (a8 1 rfl) (b8 o9 (b8 c9 b9))))) rfl (by exact aV4 hd) (yt (Ow.put_self ..))) ?_
  rintro x σ' ⟨a₂, ha₂, rfl, rfl⟩
  have nka₂ : ka ≠ a₂ := by rintro rfl; exact nS (ha₂.symm.trans hka₃)
  have naa₂ : a ≠ a₂ := by rintro rfl; exact nS (ha₂.symm.trans haa)
  refine f8 (b := false) (Tr.to (v1 (I1 (d8 (A6 (a8 6 rfl) (by exact o5 _ (.k 1 c8 (.num 100) .o) i9 (.num 4611686018427387904) tt rl)) (E6 .fz L.f.sy (a8 2 rfl) (by exact aV3 hkl hrn)) aw1) fun _ => x6 (D7 (z8 (aC6 (K5 5 L.alike L.whole ap (by exact o5 _ (.k 1 (.num 140) c8 .o) (.add c'5 k9) c8 tt hd)) (Ow.set_self ..) (b8 (a8 7 rfl) (b8 (a8 4 rfl) b9)) (.cons (.tup (.cons (.id _) (.cons (.frz (Ow.set_self ..)) .nil))) (.cons (.id _) .nil))))))) (by rw [List.length_map, hkl, beq_self_eq_true]; rfl)) nT fun _ => d6 ?_
  have al : Pl 4 (.lst ((d9 n rs).map l9 ++ [.tup [.str (lit ""), .int 0]])) := by
   have := au4 (n := 1) (d9 n rs ++ [([], 0)]) (by rw [List.length_append]; show _ + 1 ≤ _; exact n8 _ _ (.k 1 c8 d5 (.k 1 d5 (.num 100) .o)) i9 (.num 1000) tt hbl hrn)
   rw [List.map_append] at this
   exact this
  exact g8 (bf7 (c := a) (K5 4 L.alike L.whole al (by exact o5 _ (.k 1 (.num 140) c8 .o) (.add c'4 k9) c8 tt hd)) (o6 (a8 5 rfl) c9 (by decide) (by decide) rfl) ((Ow.set_ne _ _ naa₂).trans haa) (b8 (aa6 (o6 (a8 4 rfl) c9 (by decide) (by decide) rfl) (z6 (b8 (n6 (b8 (i0 (lit "")) (b8 c9 b9)) (by rw [C5]; show 2 ≤ _; exact W3 )) b9) (by rw [C5]; show 1 ≤ _; exact l'0  .o k9 (.num 16777216) tt )) (by rw [C5]; show _ + 1 ≤ _; exact o5 _ (.k 1 c8 (.num 100) .o) i9 (.num 16777216) tt zl)) b9)) ⟨rfl, .inr ((Ow.set_ne _ _ nka₂).trans hka₃)⟩
end
theorem aj0 {n : List Nat} {v : Int} : ∀ {l : List Rw}, Dst l → (∃ r ∈ l, r.1 = n) → (l.map fun r => if r.1 == n then (r.1, v) else r).Perm (k8 n l ++ [(n, v)])
 | [], _, h => by obtain ⟨r, hr, _⟩ := h; cases hr
 | r :: l, d, h => by
  obtain ⟨d1, d2⟩ := List.pairwise_cons.mp d
  by_cases e : r.1 = n
  ·have hl : ∀ q ∈ l, q.1 ≠ n := fun q hq e' => d1 q hq (e.trans e'.symm)
   have m1 : (l.map fun r => if r.1 == n then (r.1, v) else r) = l := by
    have : (l.map fun r => if r.1 == n then (r.1, v) else r) = l.map id := List.map_congr_left fun q hq => if_neg (by rw [beq_iff_eq]; exact hl q hq)
    rw [this, List.map_id]
   have m2 : k8 n l = l := List.filter_eq_self.mpr fun q hq => by simpa using hl q hq
   have m3 : k8 n (r :: l) = k8 n l := by unfold k8; rw [List.filter_cons, if_neg (by rw [e]; simp)]
   rw [List.map_cons, m1, m3, m2, if_pos (beq_iff_eq.mpr e), e]
   exact List.perm_append_singleton (n, v) l |>.symm
  ·have m3 : k8 n (r :: l) = r :: k8 n l := by unfold k8; rw [List.filter_cons, if_pos (by simpa using e)]
   rw [List.map_cons, m3, if_neg (by rw [beq_iff_eq]; exact e)]
   refine List.Perm.cons _ (aj0 d2 ?_)
   obtain ⟨q, hq, e'⟩ := h
   rcases List.mem_cons.mp hq with rfl | hq
   ·exact absurd e' e
   ·exact ⟨q, hq, e'⟩
theorem Kv.store {kvs rs : List Rw} (K : Kv kvs rs) (n : List Nat) (v : Int) : Kv (K9 kvs n v) (y4 (k8 n rs ++ [(n, v)])) := by
 have p : (K9 kvs n v).Perm (k8 n kvs ++ [(n, v)]) := by
  by_cases h : ∃ r ∈ kvs, r.1 = n
  ·unfold K9
   rw [if_pos (List.any_eq_true.mpr (h.imp fun r q => ⟨q.1, beq_iff_eq.mpr q.2⟩))]
   exact aj0 K.d h
  ·have h' : ∀ r ∈ kvs, r.1 ≠ n := fun r hr e => h ⟨r, hr, e⟩
   rw [I3 h', show k8 n kvs = kvs from List.filter_eq_self.mpr fun q hq => by simpa using h' q hq]
 have d : Dst (K9 kvs n v) := (aA0 K).perm p.symm
 exact ⟨d, T9 d (p.trans ((K.others n).perm.append_right _))⟩
structure Bst (G : Gl) (dx b pa d : Addr) (σ : Ow) (kvs rs : List Rw) (hist : List (List Rw × List Rw)) : Prop where
 tr : σ dx = some (.tr true (e8 50 rs) b)
 ps : σ b = some (.lst (hist.map fun h => e8 50 h.2))
 pa : σ pa = some (.lst (hist.map fun h => I6 G h.1))
 pl : σ d = some (G9 G kvs)
 kv : Kv kvs rs
 kp : A0 rs
 hk : ∀ h ∈ hist, Kv h.1 h.2 ∧ A0 h.2
section
variable {G : Gl} {C N dx b pa d : Addr} {mN : Str → Option Value} {fm : Str → Addr} {rs rs' kvs kvs' : List Rw} {hist : List (List Rw × List Rw)} {ρ : List V} {σ : Ow} {Q : KS}
theorem Bst.n1 (S : Bst G dx b pa d σ kvs rs hist) : dx ≠ b := by rintro rfl; cases S.tr.symm.trans S.ps
theorem Bst.n2 (S : Bst G dx b pa d σ kvs rs hist) : dx ≠ pa := by rintro rfl; cases S.tr.symm.trans S.pa
theorem Bst.n3 (S : Bst G dx b pa d σ kvs rs hist) : d ≠ dx := by rintro rfl; cases S.tr.symm.trans S.pl
theorem Bst.n4 (S : Bst G dx b pa d σ kvs rs hist) : d ≠ b := by rintro rfl; cases S.ps.symm.trans S.pl
theorem Bst.n5 (S : Bst G dx b pa d σ kvs rs hist) : d ≠ pa := by rintro rfl; cases S.pa.symm.trans S.pl
noncomputable abbrev σa (pa : Addr) (σ : Ow) (G : Gl) (kvs : List Rw) (hist : List (List Rw × List Rw)) : Ow := σ.set pa (hist.map (fun h => I6 G h.1) ++ [I6 G kvs])
noncomputable abbrev σb (dx b pa : Addr) (σ : Ow) (G : Gl) (kvs rs rs' : List Rw) (hist : List (List Rw × List Rw)) : Ow := σT (σa pa σ G kvs hist) dx b (e8 50 rs') (hist.map (fun h => e8 50 h.2) ++ [e8 50 rs])
theorem Bst.tr1 (S : Bst G dx b pa d σ kvs rs hist) : σa pa σ G kvs hist dx = some (.tr true (e8 50 rs) b) := (Ow.set_ne _ _ S.n2).trans S.tr
theorem Bst.ps1 (S : Bst G dx b pa d σ kvs rs hist) (h : b ≠ pa) : σa pa σ G kvs hist b = some (.lst (hist.map fun h => e8 50 h.2)) := (Ow.set_ne _ _ h).trans S.ps
theorem Bst.pl1 (S : Bst G dx b pa d σ kvs rs hist) : σa pa σ G kvs hist d = some (G9 G kvs) := (Ow.set_ne _ _ S.n5).trans S.pl
theorem Bst.pl2 (S : Bst G dx b pa d σ kvs rs hist) : σb dx b pa σ G kvs rs rs' hist d = some (G9 G kvs) := (M5 S.n3 S.n4).trans S.pl1
theorem Bst.next (S : Bst G dx b pa d σ kvs rs hist) (h : b ≠ pa) (kv : Kv kvs' rs') (kp : A0 rs') : Bst G dx b pa d ((σb dx b pa σ G kvs rs rs' hist).put d (G9 G kvs')) kvs' rs' (hist ++ [(kvs, rs)]) where
 tr := (Ow.put_ne _ _ S.n3.symm).trans (s8 S.n1)
 ps := (Ow.put_ne _ _ S.n4.symm).trans (by rw [List.map_append]; exact G1)
 pa := (Ow.put_ne _ _ S.n5.symm).trans ((M5 S.n2.symm h.symm).trans (by rw [List.map_append]; exact Ow.set_self ..))
 pl := Ow.put_self ..
 kv := kv
 kp := kp
 hk := fun q hq => (List.mem_append.mp hq).elim (S.hk q) fun hq => by rw [List.mem_singleton.mp hq]; exact ⟨S.kv, S.kp⟩
theorem room {n : List Nat} (h : rs.length < 100) : (!(s6 n rs).nn && decide ((100 : Int) ≤ rs.length)) = false := by
 rw [decide_eq_false (by exact fun q => (fun u1 => (f'1 _ (.k 1 i9 (.num 100) (.k 1 (.num 100) c8 .o)) tt h u1)) (Int.ofNat_le.mp q)), Bool.and_false]
end
theorem TrC.wx {G : Gl} {C N : Addr} {mN : Str → Option Value} {X : Bool} (T : TrC G C N mN) : TrC (G.wx X) C N mN := ⟨T.1, T.2, T.3, T.4, T.5, T.6, T.7⟩
theorem Mth.wx {G : Gl} {mN : Str → Option Value} {m : Str} {f : Addr} {K : Sx} {np : Nat} {B : List Stmt} {X : Bool} (M : Mth G mN m f K np B) : Mth (G.wx X) mN m f K np B := ⟨M.1, M.2, M.3, M.4, M.5, M.6⟩
theorem CP.wx {G : Gl} {X : Bool} (C : CP G) : CP (G.wx X) := ⟨C.1, C.2, C.3, C.4, C.5, C.6, C.7, C.8, C.9, C.10, C.11, C.12, C.13, C.14, C.15, C.16, C.17, C.18, C.19, C.20, C.21⟩
theorem CW.wx {G : Gl} {X : Bool} (C : CW G) : CW (G.wx X) := ⟨C.is_sign, C.is_name, C.most, C.blank, C.percent, C.tilde⟩
theorem CM.wx {G : Gl} {C N : Addr} {mN : Str → Option Value} {fm : Str → Addr} {X : Bool} (M : CM G C N mN fm) : CM (G.wx X) C N mN fm := ⟨M.p.wx, CW.wx M.w, M.need_name, M.most, M.t.wx, M.become.wx, M.need_under.wx, M.need_short.wx, M.keep.wx, M.drop.wx, M.prune.wx, M.move.wx, M.graft.wx, M.back.wx, M.told.wx, M.tree.wx, M.size.wx⟩
section
variable {G : Gl} {C N dx b pa d : Addr} {mN : Str → Option Value} {fm : Str → Addr} {rs rs' kvs kvs' : List Rw} {hist : List (List Rw × List Rw)} {ρ : List V} {σ : Ow} {Q : KS} {way more : Int} {w : List Nat} {ts : List (List Nat)}
noncomputable abbrev ρG (C dx pa d : Addr) (way : Int) (w : List Nat) (more : Int) (tx v7 v8 v9 v10 : V) : List V := [C3 C dx, .ref pa, .int way, .str w, .int more, .ref d, tx, v7, v8, v9, v10]
theorem bo3 {n : List Nat} {v : Int} {r : Rw} (h : r ∈ y4 (k8 n rs ++ [(n, v)])) : r ∈ rs ∨ r.1 = n := by
 rcases List.mem_append.mp ((m8 _).mem_iff.mp h) with q | q
 ·exact .inl (List.mem_filter.mp q).1
 ·rw [List.mem_singleton.mp q]; exact .inr rfl
theorem aO0 {n : List Nat} {v : Int} : (y4 (k8 n rs ++ [(n, v)])).length ≤ rs.length + 1 := by
 rw [(m8 _).length_eq, List.length_append]
 have : (k8 n rs).length ≤ rs.length := List.length_filter_le ..
 show _ + 1 ≤ _
 (exact n8 _ _ (.k 1 c8 d5 .o) i9 y0 tt this)
theorem bz6 {n : List Nat} {v : Int} : y4 (k8 n rs ++ [(n, v)]) ≠ [] := fun e => by
 have := (m8 (k8 n rs ++ [(n, v)])).length_eq
 rw [e, List.length_append] at this
 cases this
theorem aD8 (M : CM G C N mN fm) (hx : G.x = true) (hsy : ∃ o, G.B.get? sysModules = some o) (hnp : b ≠ pa) (hd : 130 ≤ G.d) (S : Bst G dx b pa d σ [] [] []) (hts : ∀ t ∈ ts, E1 t = true) (htl : ts.length ≤ 12)
  (h : ∀ σ kvs rs hist v7, Bst G dx b pa d σ kvs rs hist → rs.length ≤ 12 → (∀ r ∈ rs, r.1 ∈ ts) → (ts ≠ [] → rs ≠ []) → hist.length ≤ 12 → WS G y1 (C6.drop 6) (ρG C dx pa d way w more (.lst (ts.map .str)) v7 .unb .unb .unb) σ Q) :
  WS G y1 (C6.drop 5) (ρG C dx pa d way w more (.lst (ts.map .str)) .unb .unb .unb .unb) σ Q := by
 refine D6 (fun i ρ σ => ∃ kvs rs hist v7, Bst G dx b pa d σ kvs rs hist ∧ rs.length ≤ i ∧ (∀ r ∈ rs, r.1 ∈ ts) ∧ (0 < i → rs ≠ []) ∧ hist.length = i ∧ ρ = ρG C dx pa d way w more (.lst (ts.map .str)) v7 .unb .unb .unb) (a8 6 rfl) rfl ⟨[], [], [], _, S, Nat.le_refl _, nofun, nofun, rfl, rfl⟩ ?_ ?_
 ·rintro i ρ σ y hy ⟨kvs, rs, hist, v7, S, hl, hm, hne, hh, rfl⟩
  rw [List.getElem?_map] at hy
  obtain ⟨t, ht, rfl⟩ := Option.map_eq_some_iff.mp hy
  have htm := List.mem_of_getElem? ht
  have hi : i < ts.length := (List.getElem?_eq_some_iff.mp ht).1
  have hkl := S.kv.len
  have hok := hts t htm
  refine ⟨_, C2 7, B0 (a8 1 rfl) S.pa (am4 (.own S.pl) hsy (a8 5 rfl) (by exact bt5 hkl htl hi hl)) (by rw [List.length_map, C5]; exact z3 _ _ _ (.k 1 c8 d5 (.k 1 e9 (.num 12) (.k 1 y0 e9 .o))) c8 (.num 16777216) tt (Nat.le_of_eq hh) htl hi) ?_⟩
  refine Y3 (F4 M.t M.keep S.tr1 (S.ps1 hnp) S.n1 (a8 0 rfl) (b8 (a8 7 rfl) (b8 (E6 (.own S.pl1) hsy (a8 5 rfl) (by exact bt5 hkl htl hi hl)) b9)) rfl (by exact aw4 hd) (aK4 M.dn S.n1 S.kp.r hok (room (by exact z3 _ _ _ (.k 1 c8 d5 (.k 1 e9 (.num 12) (.k 1 y0 e9 .o))) i9 (.num 100) tt hl htl hi)) (by rw [List.length_map]; exact z3 _ _ _ (.k 1 c8 d5 (.k 1 e9 (.num 12) (.k 1 y0 e9 .o))) c8 (.num 1000) tt (Nat.le_of_eq hh) htl hi) (by show 70 ≤ G.d - 1; exact bt4 hd))) ?_
  rintro x σ' ⟨k', ps', ⟨rfl, rfl, rfl⟩, rfl⟩
  refine P5 (a8 5 rfl) S.pl2 (a8 7 rfl) (E6 (.own S.pl2) hsy (a8 5 rfl) (by exact bt5 hkl htl hi hl)) (by exact bt5 hkl htl hi hl) (d6 ⟨_, _, _, _, S.next hnp (S.kv.store _ _) (ad0 S.kp hok (room (by exact z3 _ _ _ (.k 1 c8 d5 (.k 1 e9 (.num 12) (.k 1 y0 e9 .o))) i9 (.num 100) tt hl htl hi))), ?_, fun r hr => ?_, fun _ => bz6, by rw [List.length_append, hh]; rfl, rfl⟩)
  ·exact Nat.le_trans aO0 (by exact n8 _ _ (.k 1 c8 d5 .o) i9 y0 tt hl)
  ·rcases bo3 hr with q | q
   ·exact hm r q
   ·rw [q]; exact htm
 ·rintro ρ σ ⟨kvs, rs, hist, v7, S, hl, hm, hne, hh, rfl⟩
  rw [List.length_map] at hl hne hh
  exact h σ kvs rs hist v7 S (by exact n8 _ _ (.k 1 c8 d5 (.k 1 d5 (.num 12) .o)) c8 (.num 12) tt hl htl) hm (fun q => hne (List.length_pos_iff.mpr q)) (by exact n8 _ _ (.k 1 c8 d5 (.k 1 d5 (.num 12) .o)) c8 (.num 12) tt (Nat.le_of_eq hh) htl)
theorem aP7 (M : CM G C N mN fm) (hx : G.x = true) (hsy : ∃ o, G.B.get? sysModules = some o) (hnp : b ≠ pa) (hd : 130 ≤ G.d) (S : Bst G dx b pa d σ kvs rs hist) (hl : rs.length ≤ 96) (hh : hist.length ≤ 15) (hm0 : 0 ≤ more) (hm : more ≤ 3) {tx v7 v8 v9 : V} (otx : tx.ok = true)
  (h : ∀ ρ σ kvs rs hist, Bst G dx b pa d σ kvs rs hist → hist.length ≤ 20 → Q (.ret (.ref d)) ρ σ) :
  WS G y1 (C6.drop 7) (ρG C dx pa d way w more tx v7 v8 v9 .unb) σ Q := by
 have hsel : ∃ m : Nat, m ≤ 3 ∧ [V.int 0, V.int more][(if (way == 1) then (1 : Int) else 0).toNat]? = some (.int m) := by
  cases way == 1
  ·exact ⟨0, by decide, rfl⟩
  ·exact ⟨more.toNat, by exact bX5 hm, by rw [Int.toNat_of_nonneg hm0]; rfl⟩
 obtain ⟨m, hm3, hsel⟩ := hsel
 refine D6 (fun i ρ σ => ∃ kvs rs hist v10, Bst G dx b pa d σ kvs rs hist ∧ rs.length ≤ 96 + i ∧ hist.length ≤ 15 + i ∧ ρ = ρG C dx pa d way w more tx v7 v8 v9 v10) (G8 (B2 (z6 (b8 c9 (b8 (a8 4 rfl) b9)) (by rw [C5]; show 2 ≤ _; exact W3 )) (ah6 (F0 (a8 2 rfl) c9 m7)) (by split <;> decide) (by split <;> decide) hsel) (by exact bE0 ) (by exact Int.ofNat_lt.mpr (o5 _ (.k 1 c8 R4 .o) i9 (.num 4611686018427387904) tt hm3))) rfl ⟨_, _, _, _, S, hl, hh, rfl⟩ ?_ ?_
 ·rintro i ρ σ y hy ⟨kvs, rs, hist, v10, S, hl, hh, rfl⟩
  rw [List.getElem?_map] at hy
  obtain ⟨j, hj, rfl⟩ := Option.map_eq_some_iff.mp hy
  obtain ⟨hjl, hj⟩ := List.getElem?_eq_some_iff.mp hj
  rw [List.getElem_range] at hj
  subst hj
  rw [List.length_range] at hjl
  have hi : i < 3 := by exact bV0 hjl hm3
  have hkl := S.kv.len
  have ej : (0 : Int) + (i : Int) = i := Int.zero_add _
  rw [ej]
  have hok : E1 (lit "z" ++ dec (i : Int)) = true := by
   have : i = 0 ∨ i = 1 ∨ i = 2 := by exact bt3 hi
   rcases this with rfl | rfl | rfl <;> decide +kernel
  have hlz : (lit "z").length + (dec (i : Int)).length ≤ sizeLine := by
   have := o0 hok
   rw [List.length_append] at this
   rw [C5]; exact n8 _ _ (.k 1 (.add c8 d5) (.num 40) .o) (.add c8 d5) (.num 16777216) tt this
  have hsm : ((i : Int)).natAbs < 10 ^ 70 := by
   have : (i : Int).natAbs = i := rfl
   rw [this]; exact Nat.lt_of_lt_of_le hi (by decide)
  refine ⟨_, C2 10, B0 (a8 1 rfl) S.pa (am4 (.own S.pl) hsy (a8 5 rfl) (by exact z3 _ _ _ (.k 1 c8 d5 (.k 1 D9 R4 (.k 1 d5 (.add (.num 96) e9) .o))) c8 (.num 10000) tt (Nat.le_of_eq hkl) hi hl)) (by rw [List.length_map, C5]; exact n8 _ _ (.k 1 c8 (.add (.num 15) d5) (.k 1 y0 R4 .o)) c8 (.num 16777216) tt hh hi) ?_⟩
  refine Y3 (F4 M.t M.keep S.tr1 (S.ps1 hnp) S.n1 (a8 0 rfl) (b8 (E7 (i0 (lit "z")) (av4 (a8 10 rfl) hsm) hlz) (b8 (a8 10 rfl) b9)) rfl (by exact aw4 hd) (aK4 M.dn S.n1 S.kp.r hok (room (by exact n8 _ _ (.k 1 c8 (.add (.num 96) d5) (.k 1 y0 R4 .o)) i9 (.num 100) tt hl hi)) (by rw [List.length_map]; exact n8 _ _ (.k 1 c8 (.add (.num 15) d5) (.k 1 y0 R4 .o)) c8 (.num 1000) tt hh hi) (by show 70 ≤ G.d - 1; exact bt4 hd))) ?_
  rintro x σ' ⟨k', ps', ⟨rfl, rfl, rfl⟩, rfl⟩
  refine P5 (a8 5 rfl) S.pl2 (E7 (i0 (lit "z")) (av4 (a8 10 rfl) hsm) hlz) (a8 10 rfl) (by exact z3 _ _ _ (.k 1 c8 d5 (.k 1 D9 R4 (.k 1 d5 (.add (.num 96) e9) .o))) c8 (.num 10000) tt (Nat.le_of_eq hkl) hi hl) (d6 ⟨_, _, _, _, S.next hnp (S.kv.store _ _) (ad0 S.kp hok (room (by exact n8 _ _ (.k 1 c8 (.add (.num 96) d5) (.k 1 y0 R4 .o)) i9 (.num 100) tt hl hi))), ?_, by rw [List.length_append]; show _ + 1 ≤ _; exact n8 _ _ (.k 1 c8 (.add (.num 15) d5) .o) i9 (.add (.num 15) y0) tt hh, rfl⟩)
  exact Nat.le_trans aO0 (by exact n8 _ _ (.k 1 c8 (.add (.num 96) d5) .o) i9 (.add (.num 96) y0) tt hl)
 ·rintro ρ σ ⟨kvs, rs, hist, v10, S, hl, hh, rfl⟩
  rw [List.length_map, List.length_range] at hh
  exact g8 (a8 5 rfl) (h _ _ _ _ _ S (by exact bU9 hh hm3))
end
theorem aT1 (s : Nat) (rs : List Rw) : g0 [] [s] rs = rs.map fun r => (s :: r.1, r.2) := by
 unfold g0 B8
 rw [List.map_map, show (rs.filter fun r => ([] : List Nat).isPrefixOf r.1) = rs from List.filter_eq_self.mpr fun _ _ => rfl]
 rfl
theorem be3 {st fr : List Rw} (h : ∀ r ∈ fr, ∀ q ∈ st, q.1 ≠ r.1) : M3 st fr = false := by
 unfold M3
 rw [show (fr.filter fun r => (st.map (·.1)).contains r.1) = [] from List.filter_eq_nil_iff.mpr fun r hr q => ?_]
 ·rfl
 ·obtain ⟨u, hu, e⟩ := List.mem_map.mp (List.contains_iff_mem.mp q)
  exact h r hr u hu e
section
variable {G : Gl} {C N dx b pa d : Addr} {mN : Str → Option Value} {fm : Str → Addr} {rs rs' kvs kvs' : List Rw} {hist : List (List Rw × List Rw)} {ρ : List V} {σ : Ow} {Q : KS} {way more : Int} {w : List Nat} {ts : List (List Nat)}
noncomputable abbrev sgn (s : Nat) (r : Rw) : Rw := (s :: r.1, r.2)
theorem bm8 {s : Nat} (d : Dst kvs) (h : ∀ r ∈ kvs, r.1.head? ≠ some s) : Dst (kvs ++ kvs.map (sgn s)) :=
 List.pairwise_append.mpr ⟨d, List.pairwise_map.mpr (d.imp fun {a b} h e => h (List.cons.inj e).2), fun a ha b hb e => by
  obtain ⟨q, _, rfl⟩ := List.mem_map.mp hb
  exact h a ha (by rw [e]; rfl)⟩
theorem aM8 {s : Nat} (D : Dst (kvs ++ kvs.map (sgn s))) (i : Nat) : Dst (kvs ++ (kvs.take i).map (sgn s)) :=
 List.Pairwise.sublist (List.Sublist.append_left (List.Sublist.map _ (List.take_sublist ..)) _) D
theorem ai9 {i : Nat} {r : Rw} (h : kvs[i]? = some r) : kvs.take (i + 1) = kvs.take i ++ [r] := by
 rw [List.take_add_one, h]; rfl
theorem bs5 (hsy : ∃ o, G.B.get? sysModules = some o) {s : Nat} (D : Dst (kvs ++ kvs.map (sgn s))) (hkl : kvs.length ≤ 100) (hlen : ∀ r ∈ kvs, r.1.length ≤ 40) {ss : List Stmt} {tx v7 v9 : V} {q₁ q₂ q₃ q₄ q₅ q₆ q₇ q₈ q₉ q₁₀ q₁₁ q₁₂ q₁₃ q₁₄ : Pos}
  (h : ∀ v9, WS G y1 ss (ρG C dx pa d way w more tx v7 (.str [s]) v9 .unb) (σ.put d (G9 G (kvs ++ kvs.map (sgn s)))) Q) (hσ : σ d = some (G9 G kvs)) :
  WS G y1 (.For (.Name "_law_name" q₁) (.Call (.Name "list" q₂) [.Name "_law_plain" q₃] [] q₄) [.Assign [.Subscript (.Name "_law_plain" q₅) (.BinOp (.Name "_law_sign" q₆) .Add (.Name "_law_name" q₇) q₈) q₉] (.Subscript (.Name "_law_plain" q₁₀) (.Name "_law_name" q₁₁) q₁₂) q₁₃] [] q₁₄ :: ss) (ρG C dx pa d way w more tx v7 (.str [s]) v9 .unb) σ Q := by
 have e0 : σ = σ.put d (G9 G (kvs ++ (kvs.take 0).map (sgn s))) := funext fun a => by
  by_cases e : a = d
  ·subst e; rw [Ow.put_self, hσ]; simp
  ·rw [Ow.put_ne _ _ e]
 refine D6 (fun i ρ σ' => σ' = σ.put d (G9 G (kvs ++ (kvs.take i).map (sgn s))) ∧ ∃ v9, ρ = ρG C dx pa d way w more tx v7 (.str [s]) v9 .unb) (bf4 (.own hσ) hsy (a8 5 rfl) (by exact a98 hkl)) rfl ⟨e0, _, rfl⟩ ?_ ?_
 ·rintro i ρ σ' y hy ⟨rfl, v9, rfl⟩
  rw [List.getElem?_map] at hy
  obtain ⟨r, hr, rfl⟩ := Option.map_eq_some_iff.mp hy
  have hrm := List.mem_of_getElem? hr
  have hrl := hlen r hrm
  have hlk : A8 (kvs ++ (kvs.take i).map (sgn s)) r.1 = some r.2 := (G6 (aM8 D i)).mpr (List.mem_append_left _ hrm)
  have hnew : ∀ q ∈ kvs ++ (kvs.take i).map (sgn s), q.1 ≠ s :: r.1 := fun q hq => by
   have := aM8 D (i + 1)
   rw [ai9 hr, List.map_append, ← List.append_assoc] at this
   exact (List.pairwise_append.mp this).2.2 q hq (sgn s r) (List.mem_singleton.mpr rfl)
  have hl2 : (kvs ++ (kvs.take i).map (sgn s)).length ≤ 10000 := by rw [List.length_append, List.length_map, List.length_take]; exact bS0 hkl
  refine ⟨_, C2 9, P5 (a8 5 rfl) (Ow.put_self ..) (E7 (a8 8 rfl) (a8 9 rfl) (by rw [C5]; show 1 + _ ≤ _; exact o5 _ (.k 1 c8 (.num 40) .o) (.add k9 c8) (.num 16777216) tt hrl)) (ad4 (.own (Ow.put_self ..)) hsy (a8 5 rfl) (a8 9 rfl) hlk) hl2 (d6 ⟨?_, _, rfl⟩)⟩
  rw [Y8]
  show σ.put d (G9 G (K9 _ (s :: r.1) r.2)) = _
  rw [I3 hnew, ai9 hr, List.map_append, List.append_assoc]
  rfl
 ·rintro ρ σ' ⟨rfl, v9, rfl⟩
  rw [List.length_map, List.take_length]
  exact h v9
theorem bh4 (M : CM G C N mN fm) (hsy : ∃ o, G.B.get? sysModules = some o) (hnp : b ≠ pa) (hd : 130 ≤ G.d) (S : Bst G dx b pa d σ kvs rs hist) (hl : rs.length ≤ 12) (hh : hist.length ≤ 12) (hne : rs ≠ []) (hlen : ∀ r ∈ rs, r.1.length ≤ 10) (hno : ∀ r ∈ rs, ∀ j, j < 3 → r.1.head? ≠ some (97 + j)) {tx v7 : V}
  (h : ∀ σ kvs rs hist v8 v9, Bst G dx b pa d σ kvs rs hist → rs.length ≤ 96 → hist.length ≤ 15 → WS G y1 (C6.drop 7) (ρG C dx pa d 1 w more tx v7 v8 v9 .unb) σ Q) :
  WS G y1 (C6.drop 6) (ρG C dx pa d 1 w more tx v7 .unb .unb .unb) σ Q := by
 refine f8 (b := true) (d8 (a8 2 rfl) c9 m7) (fun _ => ?_) nF
 refine D6 (xs := [.str (lit "a"), .str (lit "b"), .str (lit "c")]) (fun i ρ σ => i ≤ 3 ∧ ∃ kvs rs hist v8 v9, Bst G dx b pa d σ kvs rs hist ∧ rs.length ≤ 12 * 2 ^ i ∧ (∀ r ∈ rs, r.1.length ≤ 10 + i) ∧ rs ≠ [] ∧ (∀ r ∈ rs, ∀ j, i ≤ j → j < 3 → r.1.head? ≠ some (97 + j)) ∧ hist.length ≤ 12 + i ∧ ρ = ρG C dx pa d 1 w more tx v7 v8 v9 .unb) (z6 (b8 (i0 (lit "a")) (b8 (i0 (lit "b")) (b8 (i0 (lit "c")) b9))) (by rw [C5]; show 3 ≤ _; exact bt9 )) rfl ⟨by exact l'0  .o w9 R4 tt , _, _, _, _, _, S, by exact o5 _ (.k 1 c8 (.num 12) .o) c8 (.mulL 12 (.num 1)) tt hl, fun r hr => hlen r hr, hne, fun r hr j _ hj => hno r hr j hj, hh, rfl⟩ ?_ ?_
 ·rintro i ρ σ y hy ⟨_, kvs, rs, hist, v8, v9, S, hl, hlen, hne, hno, hh, rfl⟩
  have hi : i < 3 := (List.getElem?_eq_some_iff.mp hy).1
  have hy' : y = .str [97 + i] := by
   have : i = 0 ∨ i = 1 ∨ i = 2 := by exact bt3 hi
   rcases this with rfl | rfl | rfl <;> (cases hy; rfl)
  subst hy'
  have hp : 2 ^ i ≤ 4 ∧ 2 ^ (i + 1) = 2 * 2 ^ i := by
   have : i = 0 ∨ i = 1 ∨ i = 2 := by exact bt3 hi
   rcases this with rfl | rfl | rfl <;> decide
  have hok : E1 [97 + i] = true := by
   have : i = 0 ∨ i = 1 ∨ i = 2 := by exact bt3 hi
   rcases this with rfl | rfl | rfl <;> decide
  have hkl := S.kv.len
  have hb : d9 [] rs = rs := as3 rs
  have hfr := aT1 (97 + i) rs
  have hhit : M3 rs (g0 [] [97 + i] rs) = false := by
   rw [hfr]
   exact be3 fun r hr q hq e => by
    obtain ⟨u, _, rfl⟩ := List.mem_map.mp hr
    exact hno q hq i (Nat.le_refl _) hi (by rw [e]; rfl)
  have hlong : ∀ r ∈ d9 [] rs, ¬ z5 [] [97 + i] r := fun r hr => by
   rw [hb] at hr
   have := hlen r hr
   unfold z5
   show ¬ (40 : Int) < (r.1.length : Int) - 0 + 1
   (exact bR9 this hi)
  obtain ⟨RR, et⟩ := ai6 (n := []) (o := [97 + i]) S.kp S.kp hok hlong hhit (by rw [hb]; exact Nat.le_of_not_lt fun u1 => (f'2 _ _ (.k 24 c8 c'4 (.k 2 d5 (.mulL 12 c8) (.k 1 (.add (.num 100) k9) (.add d5 d5) .o))) tt (And.left hp) hl u1))
  have D : Dst (kvs ++ kvs.map (sgn (97 + i))) := bm8 S.kv.d fun r hr => hno r (S.kv.perm.mem_iff.mp hr) i (Nat.le_refl _) hi
  have KV' : Kv (kvs ++ kvs.map (sgn (97 + i))) (y4 (rs ++ g0 [] [97 + i] rs)) := ⟨D, T9 D (by rw [hfr]; exact S.kv.perm.append (S.kv.perm.map _))⟩
  refine ⟨_, C2 8, B0 (a8 1 rfl) S.pa (am4 (.own S.pl) hsy (a8 5 rfl) (by exact Nat.le_of_not_lt fun u1 => (f'3 _ _ _ (.k 12 c8 c'4 (.k 1 d5 e9 (.k 1 e9 (.mulL 12 c8) (.k 1 (.add (.num 10000) k9) d5 .o)))) tt (And.left hp) (Nat.le_of_eq hkl) hl u1))) (by rw [List.length_map, C5]; exact n8 _ _ (.k 1 c8 (.add (.num 12) d5) (.k 1 y0 R4 .o)) c8 (.num 16777216) tt hh hi) ?_⟩
  refine Y3 (F4 M.t M.graft S.tr1 (S.ps1 hnp) S.n1 (a8 0 rfl) (b8 (i0 (lit "")) (b8 (a8 8 rfl) b9)) rfl (by exact aw4 hd) (aP8 (n := []) M.dn S.n1 S.kp.r rfl hok (by rw [hb]; exact hne) hlong hhit (by rw [hb]; exact fun q => (fun u1 => (f'2 _ _ (.k 24 c8 c'4 (.k 2 d5 (.mulL 12 c8) (.k 1 (.add (.num 100) k9) (.add d5 d5) .o))) tt (And.left hp) hl u1)) (Int.ofNat_lt.mp q)) (by rw [List.length_map]; exact n8 _ _ (.k 1 c8 (.add (.num 12) d5) (.k 1 y0 R4 .o)) c8 (.num 1000) tt hh hi) (by show 120 ≤ G.d - 1; exact bD8 hd))) ?_
  rintro x σ' ⟨k', ps', ⟨rfl, rfl, rfl⟩, rfl⟩
  rw [et]
  refine bs5 hsy D (by exact Nat.le_of_not_lt fun u1 => (f'3 _ _ _ (.k 12 c8 c'4 (.k 1 d5 e9 (.k 1 e9 (.mulL 12 c8) (.k 1 (.add (.num 100) k9) d5 .o)))) tt (And.left hp) (Nat.le_of_eq hkl) hl u1)) (fun r hr => S.kp.r.len r (S.kv.perm.mem_iff.mp hr)) (fun v9 => d6 ⟨hi, _, _, _, _, _, S.next hnp KV' RR, ?_, fun r hr => ?_, fun e => ?_, fun r hr j hj hj3 => ?_, ?_, rfl⟩) S.pl2
  ·rw [(m8 _).length_eq, List.length_append, hfr, List.length_map, hp.2]; exact n8 _ _ (.k 2 c8 (.mulL 12 d5) .o) (.add c8 c8) (.mulL 12 (.mulL 2 d5)) tt hl
  ·rcases List.mem_append.mp ((m8 _).mem_iff.mp hr) with q | q
   ·have := hlen r q; exact n8 _ _ (.k 1 c8 (.add (.num 10) d5) .o) c8 (.add (.num 10) y0) tt this
   ·rw [hfr] at q
    obtain ⟨u, hu, rfl⟩ := List.mem_map.mp q
    have := hlen u hu
    show u.1.length + 1 ≤ _
    (exact n8 _ _ (.k 1 c8 (.add (.num 10) d5) .o) i9 (.add (.num 10) y0) tt this)
  ·have := (m8 (rs ++ g0 [] [97 + i] rs)).length_eq
   rw [e, List.length_append] at this
   exact hne (List.length_eq_zero_iff.mp (by simp at this; exact Nat.le_antisymm (n8 _ _ (.k 1 (.add c8 d5) w9 .o) c8 w9 tt (Nat.le_of_eq (Eq.symm this))) (o5 _ .o w9 c8 tt )))
  ·rcases List.mem_append.mp ((m8 _).mem_iff.mp hr) with q | q
   ·exact hno r q j (by exact n8 _ _ (.k 1 i9 d5 .o) c8 d5 tt hj) hj3
   ·rw [hfr] at q
    obtain ⟨u, hu, rfl⟩ := List.mem_map.mp q
    show some (97 + i) ≠ some (97 + j)
    intro e
    have := Option.some.inj e
    (exact f'2 _ _ (.k 1 (.add (.num 97) c8) (.add (.num 97) d5) (.k 1 y0 c8 .o)) tt (Nat.le_of_eq (Eq.symm this)) hj)
  ·rw [List.length_append]; show _ + 1 ≤ _; exact n8 _ _ (.k 1 c8 (.add (.num 12) d5) .o) i9 (.add (.num 12) y0) tt hh
 ·rintro ρ σ ⟨_, kvs, rs, hist, v8, v9, S, hl, hlen, hne, hno, hh, rfl⟩
  exact d6 (h σ kvs rs hist v8 v9 S hl hh)
def aW2 (G : Gl) (dx b pa : Addr) (σc : Ow) : KS := fun fl _ σ => ∃ d kvs rs hist, fl = .ret (.ref d) ∧ σc d = none ∧ (d == sysModules) = false ∧ Bst G dx b pa d σ kvs rs hist ∧ hist.length ≤ 20
theorem bz8 : A0 [] := ⟨⟨List.Pairwise.nil, nofun, by decide⟩, by decide, nofun⟩
theorem bs0 (M : CM G C N mN fm) (hx : G.x = true) (hsy : ∃ o, G.B.get? sysModules = some o) (hnp : b ≠ pa) (hd : 130 ≤ G.d) (h1 : σ dx = some (.tr true (e8 50 []) b)) (h2 : σ b = some (.lst [])) (h3 : σ pa = some (.lst [])) (hw : w.all R8 = true) (hwl : w.length = 40) (hm0 : 0 ≤ more) (hm : more ≤ 3) :
  WS G y1 C6 [C3 C dx, .ref pa, .int way, .str w, .int more, .unb, .unb, .unb, .unb, .unb, .unb] σ (aW2 G dx b pa σ) := by
 refine as6 5 hx hsy fun d hdn hds => ?_
 have ne : ∀ {a c}, σ a = some c → a ≠ d := fun {a c} q => by rintro rfl; exact nS (hdn.symm.trans q)
 have S : Bst G dx b pa d (σ.put d (G9 G [])) [] [] [] := ⟨(Ow.put_ne _ _ (ne h1)).trans h1, (Ow.put_ne _ _ (ne h2)).trans h2, (Ow.put_ne _ _ (ne h3)).trans h3, Ow.put_self .., ⟨List.Pairwise.nil, ay9 List.Pairwise.nil List.Pairwise.nil (List.Perm.refl _)⟩, bz8, nofun⟩
 have fin : ∀ ρ σ' kvs rs hist, Bst G dx b pa d σ' kvs rs hist → hist.length ≤ 20 → aW2 G dx b pa σ (.ret (.ref d)) ρ σ' := fun ρ σ' kvs rs hist S hh => ⟨d, kvs, rs, hist, rfl, hdn, hds, S, hh⟩
 refine i8 6 (z6 b9 sz0) ?_
 have take : ∀ k, (w.take k).all R8 = true := fun k => ab1 hw
 have sk : ∀ {j : Int} {ss a : List Stmt} {p q pc pe : Pos} {kc : Nat} {tx : V}, (way == j) = false → WS G y1 ss (ρG C dx pa d way w more tx .unb .unb .unb .unb) (σ.put d (G9 G [])) (aW2 G dx b pa σ) → WS G y1 (.If (.Compare (.Name "_law_way" q) [.Eq] [.Constant (.int j) kc pc] p) a [] pe :: ss) (ρG C dx pa d way w more tx .unb .unb .unb .unb) (σ.put d (G9 G [])) (aW2 G dx b pa σ) := fun hj h => f8 (b := false) (Tr.to (d8 (a8 2 rfl) c9 m7) hj) nT fun _ => d6 h
 by_cases w1 : way = 1
 ·subst w1
  refine f8 (b := true) (d8 (a8 2 rfl) c9 m7) (fun _ => J3 (caps := []) (Fv := fun i : Nat => V.int (0 + (i : Int))) (ts := List.range 12) 6 (fun k => some (V.str (dec (0 + (k : Int))))) (G8 c9 (by decide) (by decide)) rfl (by rw [C5, List.length_range]; exact l'0  .o (.num 12) (.num 16777216) tt ) (fun k hk => ?_) (d6 ?_)) nF
  ·have := List.mem_range.mp hk
   refine O2 (av4 (a8 0 rfl) ?_)
   rw [Int.zero_add]
   exact Nat.lt_of_lt_of_le this (by decide)
  refine sk rfl (sk rfl ?_)
  have et : ((List.range 12).filterMap fun k : Nat => some (V.str (dec (0 + (k : Int))))) = (((List.range 12).map fun k : Nat => dec (0 + (k : Int))).map .str) := by
   rw [List.filterMap_eq_map', List.map_map]; rfl
  rw [et]
  have hd12 : ∀ t ∈ (List.range 12).map fun k : Nat => dec (0 + (k : Int)), E1 t = true ∧ t.length ≤ 10 ∧ ∀ j, j < 3 → t.head? ≠ some (97 + j) := by decide +kernel
  refine aD8 M hx hsy hnp hd S (fun t ht => (hd12 t ht).1) (by rw [List.length_map, List.length_range]; decide) fun σ kvs rs hist v7 S hl hm' hne hh => ?_
  exact bh4 M hsy hnp hd S hl hh (hne (by decide)) (fun r hr => (hd12 _ (hm' r hr)).2.1) (fun r hr => (hd12 _ (hm' r hr)).2.2) fun σ kvs rs hist v8 v9 S hl hh => aP7 M hx hsy hnp hd S hl hh hm0 hm rfl fin
 ·have n1 : (way == 1) = false := beq_eq_false_iff_ne.mpr w1
  have rest : ∀ {ts : List (List Nat)}, (∀ t ∈ ts, E1 t = true) → ts.length ≤ 12 → WS G y1 (C6.drop 5) (ρG C dx pa d way w more (.lst (ts.map .str)) .unb .unb .unb .unb) (σ.put d (G9 G [])) (aW2 G dx b pa σ) := fun hts hl => aD8 M hx hsy hnp hd S hts hl fun σ kvs rs hist v7 S hl _ _ hh => f8 (b := false) (Tr.to (d8 (a8 2 rfl) c9 m7) n1) nT fun _ => d6 (aP7 M hx hsy hnp hd S (by exact o5 _ (.k 1 c8 (.num 12) .o) c8 (.num 96) tt hl) (by exact o5 _ (.k 1 c8 (.num 12) .o) c8 (.num 15) tt hh) hm0 hm rfl fin)
  refine sk n1 ?_
  by_cases w2 : way = 2
  ·subst w2
   refine f8 (b := true) (d8 (a8 2 rfl) c9 m7) (fun _ => J3 (caps := [3]) (Fv := fun i : Nat => V.int (0 + (i : Int))) (ts := List.range 12) 6 (fun k => some (V.str (slice w none (some (3 * (0 + (k : Int))))))) (G8 c9 (by decide) (by decide)) rfl (by rw [C5, List.length_range]; exact l'0  .o (.num 12) (.num 16777216) tt ) (fun k hk => ?_) (d6 ?_)) nF
   ·have := List.mem_range.mp hk
    exact O2 (E9 (a8 0 rfl) z9 (w7 (Q8 c9 (a8 1 rfl) (.of_left (by decide)))) (by rw [C5]; exact bE3 hwl))
   refine sk rfl ?_
   have et : ((List.range 12).filterMap fun k : Nat => some (V.str (slice w none (some (3 * (0 + (k : Int))))))) = (((List.range 12).map fun k : Nat => w.take (3 * k)).map .str) := by
    rw [List.filterMap_eq_map', List.map_map]
    refine List.map_congr_left fun k _ => ?_
    show V.str (slice w none (some (3 * (0 + (k : Int))))) = .str (w.take (3 * k))
    rw [Int.zero_add, show (3 : Int) * (k : Int) = ((3 * k : Nat) : Int) by exact Int.ofNat_inj.mpr (Nat.le_antisymm (o5 _ .o (.mulL 3 c8) (.mulL 3 c8) tt ) (o5 _ .o (.mulL 3 c8) (.mulL 3 c8) tt )), B7]
   rw [et]
   refine rest (fun t ht => ?_) (by rw [List.length_map, List.length_range]; decide)
   obtain ⟨k, _, rfl⟩ := List.mem_map.mp ht
   exact Bool.and_eq_true_iff.mpr ⟨decide_eq_true (by rw [List.length_take]; exact bR6 hwl), take _⟩
  ·refine sk (beq_eq_false_iff_ne.mpr w2) ?_
   by_cases w3 : way = 3
   ·subst w3
    refine f8 (b := true) (d8 (a8 2 rfl) c9 m7) (fun _ => i8 6 (z6 (b8 (i0 (lit "p")) (b8 (E7 (i0 (lit "p")) (E9 (a8 3 rfl) z9 (w7 c9) (by rw [C5]; exact bE3 hwl)) ?_) (b8 (i0 (lit "qq")) b9))) (by rw [C5]; show 3 ≤ _; exact bt9 )) (d6 ?_)) nF
    ·rw [show slice w none (some (39 : Int)) = w.take 39 from B7 w 39, List.length_take, C5]; show 1 + _ ≤ _; exact bR5
    ·rw [show slice w none (some (39 : Int)) = w.take 39 from B7 w 39]
     refine rest (ts := [lit "p", lit "p" ++ w.take 39, lit "qq"]) (fun t ht => ?_) (by show 3 ≤ 12; exact l'0  .o R4 (.num 12) tt )
     rcases List.mem_cons.mp ht with rfl | ht
     ·rfl
     ·rcases List.mem_cons.mp ht with rfl | ht
      ·refine Bool.and_eq_true_iff.mpr ⟨decide_eq_true (by rw [List.length_append, List.length_take]; show 1 + _ ≤ _; exact bR4 ), ?_⟩
       rw [List.all_append, take]; rfl
      ·rw [List.mem_singleton.mp ht]; rfl
   ·exact sk (beq_eq_false_iff_ne.mpr w3) (rest (ts := []) nofun (by decide))
end
noncomputable def aU8 : List Stmt → PySem.Expr
 | .Assign _ e _ :: _ => e
 | _ => .Constant .none 0 default
noncomputable def ay1 : List Nat := [0, 0, 0, 1, 2, 3, 3, 4, 4, 5]
noncomputable def aq1 (c : Int) : Nat := ay1.getD (c % 10).toNat 0
theorem aM1 (c : Int) : (ay1.map fun n : Nat => V.int n)[(c % 10).toNat]? = some (.int (aq1 c)) ∧ 0 ≤ c % 10 ∧ c % 10 < 10 ∧ aq1 c < 6 ∧ (aq1 c = 5 ↔ c % 10 = 9) := by
 have m0 := E8 c (m := 10) (by decide)
 have m1 := Int.emod_lt_of_pos c (b := 10) (by decide)
 unfold aq1
 obtain ⟨k, hk⟩ := Int.eq_ofNat_of_zero_le m0
 rw [hk] at m1 ⊢
 have hk10 : k < 10 := Int.ofNat_lt.mp m1
 have key : ∀ k, k < 10 → ay1[k]? = some (ay1.getD k 0) ∧ ay1.getD k 0 < 6 ∧ (ay1.getD k 0 = 5 ↔ (k : Int) = 9) := by decide
 rw [Int.toNat_natCast, List.getElem?_map, (key k hk10).1]
 exact ⟨rfl, Int.natCast_nonneg k, m1, (key k hk10).2⟩
section
variable {G : Gl} {K : Sx} {ρ : List V} {σ : Ow} {Q : KS}
theorem D5 {e : PySem.Expr} {es : List PySem.Expr} {x : V} {xs : List V} (h : Ev G K ρ σ e x) (h2 : True ∧ EvL G K ρ σ es xs) : True ∧ EvL G K ρ σ (e :: es) (x :: xs) := ⟨trivial, b8 h h2.2⟩
theorem bf3 {es : List PySem.Expr} {ix : PySem.Expr} {xs : List V} {z : V} {i : Int} (p q : Pos) (h : True ∧ EvL G K ρ σ es xs) (hl : xs.length ≤ sizeLine) (hs : es.all f0 = true) (h2 : Ev G K ρ σ ix (.int i)) (h0 : 0 ≤ i) (hi : i < 2 ^ 62) (hz : xs[i.toNat]? = some z) (hn : F3 ix = true) : True ∧ Ev G K ρ σ (.Subscript (.List es p) ix q) z := ⟨trivial, B2 (z6 h.2 hl hs) h2 h0 hi hz hn⟩
theorem aZ1 (i : Nat) {ss r : List Stmt} {n : Str} {q p q' q'' : Pos} {x : V} {es : List PySem.Expr} {ix : PySem.Expr} (hss : ss = .Assign [.Name n q] (.Subscript (.List es q') ix q'') p :: r) (h1 : True ∧ Ev G K ρ σ (aU8 ss) x) (h2 : WS G K r (ρ.set i x) σ Q) (hx : w0 K i n = true) : True ∧ WS G K ss ρ σ Q := by
 subst hss
 exact ⟨trivial, i8 i h1.2 h2 hx fun _ _ => rfl⟩
noncomputable def bm6 : PySem.Expr → List PySem.Expr × Pos × PySem.Expr × Pos
 | .Subscript (.List es p) ix q => (es, p, ix, q)
 | _ => ([], default, .Constant .none 0 default, default)
end
noncomputable def LB : List Stmt := match aQ0.drop 9 with
 | .For _ _ b _ _ :: _ => b
 | _ => []
structure CL (G : Gl) (C N : Addr) (mN : Str → Option Value) (fm : Str → Addr) : Prop where
 m : CM G C N mN fm
 x : CX G.dn
 t : CT G
 cell : X1 G
 word : J2 G
 sign : F9 G
 number : S6 G
 text_by : O0 G
 other_by : U9 G
 begun : aF9 G
 first : N7 G
 tells : aF8 G
section
variable {G : Gl} {C N dx b pa ka : Addr} {mN : Str → Option Value} {fm : Str → Addr} {rs kvs : List Rw} {hist : List (List Rw × List Rw)} {kp zs ds : List V} {ρ : List V} {σ : Ow} {Q : KS} {beg mo sz c : Int} {i : Nat} {w : List Nat}
theorem bq8 : True ∧ EvL G A4 ρ σ (bm6 (aU8 (LB.drop 1))).1 (ay1.map fun n : Nat => V.int n) :=
 D5 c9 (D5 c9 (D5 c9 (D5 c9 (D5 c9 (D5 c9 (D5 c9 (D5 c9 (D5 c9 (D5 c9 ⟨trivial, b9⟩)))))))))
theorem aZ6 : (ay1.map fun n : Nat => V.int n).length ≤ sizeLine := by rw [C5]; decide
noncomputable abbrev ρM (zs : List V) (C dx pa ka : Addr) (beg mo : Int) (w : List Nat) (x7 : V) (ds : List V) (sz : Int) (i : Nat) (c : Int) (v12 v13 v14 v15 v16 v17 v18 : V) : List V := [.scr zs, C3 C dx, .ref pa, .ref ka, .int beg, .int mo, .str w, x7, .lst ds, .int sz, .int i, .int c, v12, v13, v14, v15, v16, v17, v18]
theorem bI0 {v12 v13 v14 v15 v16 v17 v18 x7 : V} : True ∧ Ev G A4 (ρM zs C dx pa ka beg mo w x7 ds sz i c v12 v13 v14 v15 v16 v17 v18) σ (aU8 (LB.drop 1)) (.int (aq1 c)) := by
 obtain ⟨h1, h2, h3, _, _⟩ := aM1 c
 exact bf3 (bm6 (aU8 (LB.drop 1))).2.1 (bm6 (aU8 (LB.drop 1))).2.2.2 (ix := (bm6 (aU8 (LB.drop 1))).2.2.1) bq8 aZ6 rfl (x9 (a8 11 rfl) c9 (by decide)) h2 (by exact bP0 ) h1 rfl
def an6 (x : V) : Prop := ∃ (k : Nat) (one other : V) (b1 b2 : Bool), k < 6 ∧ Td one b1 ∧ Td other b2 ∧ x = .tup [.int k, one, other]
theorem ay3 (L : CL G C N mN fm) (hdl : ds.length ≤ 10) {k : Nat} {one other : V} {b1 b2 : Bool} {v12 v17 v18 : V} {n0 : Int} (t1 : Td one b1) (t2 : Td other b2)
  (h : ∀ num, WS G A4 (LB.drop 7) (ρM zs C dx pa ka beg mo w (I6 G kvs) ds sz i c v12 (.int k) one other (.int num) v17 v18) σ Q) : WS G A4 (LB.drop 6) (ρM zs C dx pa ka beg mo w (I6 G kvs) ds sz i c v12 (.int k) one other (.int n0) v17 v18) σ Q := by
 have hsy := L.t.f.sy
 cases t1 with
 | str n hn0 hn1 =>
  cases hlk : A8 kvs n with
  | none => exact f8 (b := false) (Tr.to (v1 (y2 (c := false) (aw2 .fz hsy (n := n) (a8 14 rfl) (a8 7 rfl)) fun q => by rw [hlk] at q; cases q)) (by rw [hlk]; rfl)) nT fun _ => d6 (h n0)
  | some v =>
   exact f8 (v1 (y2 (aw2 .fz hsy (n := n) (a8 14 rfl) (a8 7 rfl)) fun _ => x6 (v1 (I1 (d8 (a8 10 rfl) (A6 (a8 8 rfl) (by exact o5 _ (.k 1 c8 (.num 10) .o) i9 (.num 4611686018427387904) tt hdl)) as0) fun _ => x6 (d8 (x9 (B3 (a8 11 rfl) c9 (by decide) (by decide)) c9 (by decide)) c9 m7))))) (fun _ => i8 16 (ad4 .fz hsy (a8 7 rfl) (a8 14 rfl) hlk) (d6 (h v))) fun _ => d6 (h n0)
 | none => exact f8 (b := false) (v1 (y2 (c := false) (br2 .fz hsy (a8 14 rfl) (a8 7 rfl)) nofun)) nT fun _ => d6 (h n0)
 | int j => exact f8 (b := false) (v1 (y2 (c := false) (br3 .fz hsy (a8 14 rfl) (a8 7 rfl)) nofun)) nT fun _ => d6 (h n0)
theorem aG2 (L : CL G C N mN fm) (hds : ∀ x ∈ ds, an6 x) (hdl : ds.length ≤ 10) {k : Nat} {one other : V} {b1 b2 : Bool} {v12 v17 v18 : V} {n0 : Int} (hk : k < 6) (t1 : Td one b1) (t2 : Td other b2)
  (h : ∀ (k : Nat) one other b1 b2 num, k < 6 → Td one b1 → Td other b2 → WS G A4 (LB.drop 7) (ρM zs C dx pa ka beg mo w (I6 G kvs) ds sz i c v12 (.int k) one other (.int num) v17 v18) σ Q) : WS G A4 (LB.drop 5) (ρM zs C dx pa ka beg mo w (I6 G kvs) ds sz i c v12 (.int k) one other (.int n0) v17 v18) σ Q := by
 refine f8 (d8 (a8 10 rfl) (A6 (a8 8 rfl) (by exact o5 _ (.k 1 c8 (.num 10) .o) i9 (.num 4611686018427387904) tt hdl)) as0) (fun hb => ?_) fun _ => d6 (ay3 L hdl t1 t2 fun num => h k one other b1 b2 num hk t1 t2)
 have hi : i < ds.length := by have := of_decide_eq_true hb; exact n8 _ _ (.k 1 i9 d5 .o) i9 d5 tt (Int.ofNat_lt.mp (of_decide_eq_true hb))
 obtain ⟨k, one, other, a1, a2, hk, t1, t2, e⟩ := hds _ (List.getElem_mem hi)
 exact bl4 (x := .tup [.int k, one, other]) (B2 (a8 8 rfl) (a8 10 rfl) (by exact bD9 ) (by exact Int.ofNat_lt.mpr (n8 _ _ (.k 1 i9 d5 (.k 1 d5 (.num 10) .o)) i9 (.num 4611686018427387904) tt (Int.ofNat_lt.mp (of_decide_eq_true hb)) hdl)) (by rw [Int.toNat_natCast, List.getElem?_eq_getElem hi, e])) (bh7 13 14 15) (d6 (ay3 L hdl t1 t2 fun num => h k one other a1 a2 num hk t1 t2))
end
section
variable {G : Gl} {C N dx b pa ka : Addr} {mN : Str → Option Value} {fm : Str → Addr} {rs kvs : List Rw} {hist : List (List Rw × List Rw)} {kp zs ds : List V} {ρ : List V} {σ : Ow} {Q : KS} {beg mo sz c : Int} {i : Nat} {w : List Nat}
theorem bl7 (L : CL G C N mN fm) (R : A0 rs) (hds : ∀ x ∈ ds, an6 x) (hdl : ds.length ≤ 10) (hd : 140 ≤ G.d) {k0 : Nat} (hk0 : k0 < 6) {v14 v15 v16 v17 v18 : V}
  (h : ∀ (k : Nat) one other b1 b2 num, k < 6 → Td one b1 → Td other b2 → WS G A4 (LB.drop 7) (ρM zs C dx pa ka beg mo w (I6 G kvs) ds sz i c (.lst ((rs.map (·.1)).map .str)) (.int k) one other (.int num) v17 v18) σ Q) :
  WS G A4 (LB.drop 2) (ρM zs C dx pa ka beg mo w (I6 G kvs) ds sz i c (.lst ((rs.map (·.1)).map .str)) (.int k0) v14 v15 v16 v17 v18) σ Q := by
 have hrn := R.n
 have hl : ∀ t ∈ rs.map (·.1), t.length ≤ 40 := fun t ht => by obtain ⟨r, hr, rfl⟩ := List.mem_map.mp ht; exact R.r.len r hr
 have ho : ∀ t ∈ rs.map (·.1), t.all R8 = true := fun t ht => by obtain ⟨r, hr, rfl⟩ := List.mem_map.mp ht; exact R.ok r hr
 have hln : (rs.map (·.1)).length ≤ 10000 := by rw [List.length_map]; exact a98 hrn
 obtain ⟨b1, T1⟩ := ai8 (c := c / 10) hl ho
 obtain ⟨b2, T2⟩ := aR5 (c := c) hl ho
 refine i8 14 (d7 (V8 L.text_by L.word L.sign hl hln (by exact o5 _ (.k 1 (.num 140) c8 .o) R4 c8 tt hd)) (b8 (B3 (a8 11 rfl) c9 (by decide) (by decide)) (b8 (a8 12 rfl) b9))) ?_
 refine i8 15 (d7 (aK0 L.other_by L.text_by L.word L.sign hl hln (by exact o5 _ (.k 1 (.num 140) c8 .o) c'4 c8 tt hd)) (b8 (a8 11 rfl) (b8 (a8 12 rfl) b9))) ?_
 refine i8 16 (d7 (aD4 L.number (by exact aV4 hd)) (b8 (B3 (a8 11 rfl) c9 (by decide) (by decide)) b9)) ?_
 exact aG2 L hds hdl hk0 T1 T2 fun k one other b1 b2 num hk t1 t2 => h k one other b1 b2 num hk t1 t2
theorem bl8 {x7 v12 v13 v14 v15 v16 v17 v18 : V} (h : WS G A4 (LB.drop 2) (ρM zs C dx pa ka beg mo w x7 ds sz i c v12 (.int (aq1 c)) v14 v15 v16 v17 v18) σ Q) : True ∧ WS G A4 (LB.drop 1) (ρM zs C dx pa ka beg mo w x7 ds sz i c v12 v13 v14 v15 v16 v17 v18) σ Q :=
 aZ1 13 (ss := LB.drop 1) rfl bI0 h (by decide +kernel)
theorem bl3 {ss r : List Stmt} {n : Str} {q p : Pos} {x : V} {ex : PySem.Expr} (i : Nat) (hss : ss = .Assign [.Name n q] ex p :: r) (h1 : Ev G A4 ρ σ ex x) (h2 : True ∧ WS G A4 r (ρ.set i x) σ Q) (hx : w0 A4 i n = true) (hsw : ∀ env, env.scope = A4.sc → swapsWith ex (some (.Name n q)) p.line env = pure false) : True ∧ WS G A4 ss ρ σ Q := by
 subst hss
 exact ⟨trivial, i8 i h1 h2.2 hx hsw⟩
theorem bl9 (L : CL G C N mN fm) (KV : Kv kvs rs) (R : A0 rs) {v12 v13 v14 v15 v16 v17 v18 : V} (h : True ∧ WS G A4 (LB.drop 1) (ρM zs C dx pa ka beg mo w (I6 G kvs) ds sz i c (.lst ((rs.map (·.1)).map .str)) v13 v14 v15 v16 v17 v18) σ Q) :
  True ∧ WS G A4 LB (ρM zs C dx pa ka beg mo w (I6 G kvs) ds sz i c v12 v13 v14 v15 v16 v17 v18) σ Q := by
 have hkl := KV.len
 have hrn := R.n
 exact bl3 (r := LB.drop 1) 12 rfl (Q6 .fz L.t.f.sy (a8 7 rfl) (by exact aV3 hkl hrn) fun ks hp hs => by rw [KV.keys hp hs]) h (by decide +kernel) (fun _ _ => rfl)
theorem ba0 (L : CL G C N mN fm) (KV : Kv kvs rs) (R : A0 rs) (hds : ∀ x ∈ ds, an6 x) (hdl : ds.length ≤ 10) (hd : 140 ≤ G.d) {v12 v13 v14 v15 v16 v17 v18 : V}
  (h : ∀ (k : Nat) one other b1 b2 num, k < 6 → Td one b1 → Td other b2 → WS G A4 (LB.drop 7) (ρM zs C dx pa ka beg mo w (I6 G kvs) ds sz i c (.lst ((rs.map (·.1)).map .str)) (.int k) one other (.int num) v17 v18) σ Q) :
  True ∧ WS G A4 LB (ρM zs C dx pa ka beg mo w (I6 G kvs) ds sz i c v12 v13 v14 v15 v16 v17 v18) σ Q :=
 bl9 L KV R (bl8 (bl7 L R hds hdl hd (aM1 c).2.2.2.1 h))
end
theorem Bad.dn {G : Gl} {x : Str} {C : Addr} {cs : List Nat} (H : Bad G x C cs) : Bad G.dn x C cs := ⟨H.cls, H.te, H.m, fun A e F s E go => H.w A e F s E ⟨go.g, go.b, go.nolimit, go.blt⟩⟩
theorem CX.dn {G : Gl} (X : CX G) : CX G.dn := ⟨X.nn.imp fun _ h => h.dn, X.nt.imp fun _ h => h.dn, X.tl.imp fun _ h => h.dn, X.tk.imp fun _ h => h.dn, X.tm.imp fun _ h => h.dn, X.nd.imp fun _ h => h.dn⟩
theorem CF.dn {G : Gl} (L : CF G) : CF G.dn := ⟨L.1, L.2, L.3, L.4, L.5⟩
theorem CT.dn {G : Gl} (L : CT G) : CT G.dn := ⟨L.f.dn, L.2, L.3, L.4⟩
structure Ls (G : Gl) (dx b pa ka : Addr) (σ : Ow) (kvs rs : List Rw) (hist : List (List Rw × List Rw)) (kp : List V) : Prop where
 tr : σ dx = some (.tr true (e8 50 rs) b)
 ps : σ b = some (.lst (hist.map fun h => e8 50 h.2))
 fp : σ pa = some (.lst (hist.map fun h => I6 G h.1))
 fk : σ ka = some (.lst kp)
 kv : Kv kvs rs
 r : A0 rs
 hk : ∀ h ∈ hist, Kv h.1 h.2 ∧ A0 h.2
 hp : ∀ x ∈ kp, ∃ rs, A0 rs ∧ x = Y9 rs
 n1 : b ≠ pa
 n2 : b ≠ ka
 n3 : pa ≠ ka
section
variable {G : Gl} {C N dx b pa ka : Addr} {mN : Str → Option Value} {fm : Str → Addr} {rs kvs : List Rw} {hist : List (List Rw × List Rw)} {kp zs ds : List V} {ρ : List V} {σ : Ow} {Q : KS} {beg mo sz c : Int} {i : Nat} {w : List Nat}
theorem Ls.d1 (S : Ls G dx b pa ka σ kvs rs hist kp) : dx ≠ b := by rintro rfl; cases S.tr.symm.trans S.ps
theorem Ls.d2 (S : Ls G dx b pa ka σ kvs rs hist kp) : dx ≠ pa := by rintro rfl; cases S.tr.symm.trans S.fp
theorem Ls.d3 (S : Ls G dx b pa ka σ kvs rs hist kp) : dx ≠ ka := by rintro rfl; cases S.tr.symm.trans S.fk
theorem Ls.kept (S : Ls G dx b pa ka σ kvs rs hist kp) {kp' : List V} (h : kp' = kp ∨ kp' = kp ++ [Y9 rs]) : Ls G dx b pa ka (σ.set ka kp') kvs rs hist kp' := by
 refine ⟨(Ow.set_ne _ _ S.d3).trans S.tr, (Ow.set_ne _ _ S.n2).trans S.ps, (Ow.set_ne _ _ S.n3).trans S.fp, Ow.set_self .., S.kv, S.r, S.hk, ?_, S.n1, S.n2, S.n3⟩
 rcases h with rfl | rfl
 ·exact S.hp
 ·exact fun x hx => (List.mem_append.mp hx).elim (S.hp x) fun q => ⟨rs, S.r, List.mem_singleton.mp q⟩
theorem bk0 (S : Ls G dx b pa ka σ kvs rs hist kp) : bE5 G.x G.x σ (σK dx b ka (e8 50 rs) kp) := fun a c q => by
 by_cases h : a = ka
 ·subst h; cases (Ow.set_self ..).symm.trans q; exact ⟨_, S.fk, id, fun _ _ t => t⟩
 ·have q' := (Ow.set_ne _ _ h).symm.trans q
  by_cases h' : a = dx
  ·subst h'; cases (Ow.put_self ..).symm.trans q'; exact ⟨_, S.tr, fun _ => rfl, fun _ _ t => t⟩
  ·exact nS ((Ow.put_ne _ _ h').symm.trans q')
theorem bF9 {a : Addr} (h : ∃ c, σK dx b ka (e8 50 rs) kp a = some c ∧ c.rw = true) : a = ka := by
 obtain ⟨c, q, hr⟩ := h
 by_cases h : a = ka
 ·exact h
 ·have q' := (Ow.set_ne _ _ h).symm.trans q
  by_cases h' : a = dx
  ·subst h'; cases (Ow.put_self ..).symm.trans q'; cases hr
  ·exact nS ((Ow.put_ne _ _ h').symm.trans q')
theorem aT2 (L : CL G C N mN fm) (hx : G.x = false) (S : Ls G dx b pa ka σ kvs rs hist kp) {start : V} {b1 : Bool} (h1 : Td start b1) (hkp : kp.length ≤ 10000) (hd : 141 ≤ G.d) {es : List PySem.Expr} {q p : Pos} (ha : EvL G A4 ρ σ es [C3 C dx, start, I6 G kvs, .ref ka]) (hs : es.all f0 = true := by rfl) :
  EvM G A4 ρ σ (.Call (.Name "_law_tells" q) es [] p) fun x σ' => x = .bool true ∧ ∃ kp', (kp' = kp ∨ kp' = kp ++ [Y9 rs]) ∧ σ' = σ.set ka kp' :=
 aC4 (X' := G.x) (.inr rfl) L.tells ha rfl (by exact o5 _ (.k 1 (.num 141) c8 .o) (.add w9 k9) c8 tt hd) (bk0 S) (br7 (G := G.dn) L.m.dn L.x.dn L.t.dn hx S.d3 S.r S.kv h1 hkp (by show 140 ≤ G.d - 1; exact bR7 hd)) (fun fl ρ' σ₃ hq => by
  obtain ⟨rfl, hq⟩ := hq
  have : ∃ kp', (kp' = kp ∨ kp' = kp ++ [Y9 rs]) ∧ σ₃ ka = some (.lst kp') := hq.elim (fun q => ⟨_, .inl rfl, q⟩) fun q => ⟨_, .inr rfl, q⟩
  obtain ⟨kp', hk, e⟩ := this
  refine ⟨.bool true, .bool true, σ.set ka kp', .inl rfl, .id _, fun a h => Ow.set_ne _ _ fun e => h (by subst e; exact ⟨.lst kp, Ow.set_self .., rfl⟩), fun a c h q => ?_, rfl, kp', hk, rfl⟩
  cases bF9 h
  cases (Ow.set_self ..).symm.trans q
  exact ⟨e, rfl⟩) hs (by decide +kernel)
theorem ay4 (L : CL G C N mN fm) (hx : G.x = false) (hd : 150 ≤ G.d) (S : Ls G dx b pa ka σ kvs rs hist kp) (hkp : kp.length ≤ 9000) {x7 v12 v13 v14 v15 v16 u0 u1 v18 : V}
  (hq : ∀ kp' σ' v18, Ls G dx b pa ka σ' kvs rs hist kp' → kp'.length ≤ kp.length + 1 → Q .next (ρM zs C dx pa ka beg mo w (I6 G kvs) ds sz i c v12 v13 v14 v15 v16 (.tup [u0, u1, I6 G kvs]) v18) σ') :
  WS G A4 (LB.drop 10) (ρM zs C dx pa ka beg mo w x7 ds sz i c v12 v13 v14 v15 v16 (.tup [u0, u1, I6 G kvs]) v18) σ Q := by
 have hsy := L.t.f.sy
 have hkl := S.kv.len
 have hrn := S.r.n
 have hl : ∀ t ∈ rs.map (·.1), t.length ≤ 40 := fun t ht => by obtain ⟨r, hr, rfl⟩ := List.mem_map.mp ht; exact S.r.r.len r hr
 have ho : ∀ t ∈ rs.map (·.1), t.all R8 = true := fun t ht => by obtain ⟨r, hr, rfl⟩ := List.mem_map.mp ht; exact S.r.ok r hr
 have hln : (rs.map (·.1)).length ≤ 10000 := by rw [List.length_map]; exact a98 hrn
 obtain ⟨b1, T1⟩ := ai8 (c := c * 40692 % 2147483399) hl ho
 have o1 := T1.tx.ok
 have al : Pure G "_law_alike" [.int rs.length, .int kvs.length] (.bool true) := by rw [hkl]; exact K5 1 L.t.alike L.t.whole (.int 0 _) (by exact o5 _ (.k 1 (.num 150) c8 .o) (.add k9 k9) c8 tt hd)
 refine i8 7 (o6 (a8 17 rfl) c9 (by decide) (by decide) rfl) ?_
 refine i8 18 (d7 (V8 L.text_by L.word L.sign hl hln (by exact o5 _ (.k 1 (.num 150) c8 .o) R4 c8 tt hd)) (b8 (x9 (Q8 (a8 11 rfl) c9 (.of_right (by decide))) c9 (by decide)) (b8 (Q6 .fz hsy (a8 7 rfl) (by exact aV3 hkl hrn) fun ks hp hs => by rw [S.kv.keys hp hs]) b9))) ?_
 refine f8 (b := false) (Tr.to (v1 (y2 (d8 (x9 (B3 (a8 11 rfl) c9 (by decide) (by decide)) c9 (by decide)) c9 m7) fun _ => x6 (D7 (z8 (d7 al (b8 (ah4 L.m S.r.r S.tr (a8 1 rfl) (by exact o5 _ (.k 1 (.num 150) c8 .o) (.num 60) c8 tt hd)) (b8 (E6 .fz hsy (a8 7 rfl) (by exact aV3 hkl hrn)) b9))))))) (by rw [Bool.not_true, Bool.and_false])) nT fun _ => d6 ?_
 refine aZ3 (bm1 (v := false) (aM4 (ba2 (v := true) (aT2 L hx S T1 (by exact o5 _ (.k 1 c8 (.num 9000) .o) c8 (.num 10000) tt hkp) (by exact o5 _ (.k 1 (.num 150) c8 .o) (.num 141) c8 tt hd) (b8 (a8 1 rfl) (b8 (a8 18 rfl o1) (b8 (a8 7 rfl) (b8 (a8 3 rfl) b9))))) fun x σ' h => h.1)) fun u σ' h => ?_) (fun σ' h => nomatch h.1) fun σ' h => d6 ?_
 ·obtain ⟨h1, _, kp', hk, rfl⟩ := h
  have S' := S.kept hk
  exact ⟨by rw [← Bool.not_not u, h1]; rfl, Tr.to (D7 (z8 (d7 al (b8 (ah4 L.m S'.r.r S'.tr (a8 1 rfl) (by exact o5 _ (.k 1 (.num 150) c8 .o) (.num 60) c8 tt hd)) (b8 (E6 .fz hsy (a8 7 rfl) (by exact aV3 hkl hrn)) b9))))) rfl⟩
 ·obtain ⟨_, _, _, kp', hk, rfl⟩ := h
  exact d6 (hq kp' _ _ (S.kept hk) (by rcases hk with rfl | rfl; exact o5 _ .o c8 i9 tt ; rw [List.length_append]; exact Nat.le_refl _))
end
section
variable {G : Gl} {C N dx b pa ka : Addr} {mN : Str → Option Value} {fm : Str → Addr} {rs kvs : List Rw} {hist : List (List Rw × List Rw)} {kp zs ds : List V} {ρ : List V} {σ : Ow} {Q : KS} {beg mo sz c : Int} {i : Nat} {w : List Nat}
theorem bG8 {kk : V} {ps : List V} {w : Bool} (h1 : σ dx = some (.tr w kk b)) (h2 : σ b = some (.lst ps)) : Ro σ (σB dx b kk ps) := fun a c q => by
 by_cases hb : a = b
 ·subst hb; cases (Ow.put_self ..).symm.trans q; exact ⟨rfl, _, h2, fun _ _ _ r => r⟩
 ·have q' := (Ow.put_ne _ _ hb).symm.trans q
  by_cases hd : a = dx
  ·subst hd; cases (Ow.put_self ..).symm.trans q'; exact ⟨rfl, _, h1, fun _ _ _ r => r⟩
  ·exact nS ((Ow.put_ne _ _ hd).symm.trans q')
theorem aN4 {s : List Nat} {v : V} (h : Pl 1 v) : Pl 3 (.tup [.str s, v]) := .tup _ (by rw [C5]; show 2 ≤ _; exact W3 ) fun y hy => by
 rcases List.mem_cons.mp hy with rfl | hy
 ·exact .str _ _
 ·rw [List.mem_singleton.mp hy]; exact h.up
theorem Ls.did (S : Ls G dx b pa ka σ kvs rs hist kp) {kvs' rs' : List Rw} {hist' : List (List Rw × List Rw)} (KV : Kv kvs' rs') (R : A0 rs') (hk : ∀ h ∈ hist', Kv h.1 h.2 ∧ A0 h.2) : Ls G dx b pa ka (σT (σ.set pa (hist'.map fun h => I6 G h.1)) dx b (e8 50 rs') (hist'.map fun h => e8 50 h.2)) kvs' rs' hist' kp :=
 ⟨s8 S.d1, G1, (M5 S.d2.symm S.n1.symm).trans (Ow.set_self ..), (M5 S.d3.symm S.n2.symm).trans ((Ow.set_ne _ _ S.n3.symm).trans S.fk), KV, R, hk, S.hp, S.n1, S.n2, S.n3⟩
abbrev bi8 (G : Gl) (C dx b pa ka : Addr) (zs : List V) (beg mo : Int) (w : List Nat) (ds : List V) (sz : Int) (hn kn : Nat) (Q : KS) : Prop :=
 ∀ kvs' rs' hist' kp' σ' (i : Nat) (c : Int) v12 v13 v14 v15 v16 v17 v18, Ls G dx b pa ka σ' kvs' rs' hist' kp' → hist'.length ≤ hn + 1 → kp'.length ≤ kn + 1 → Q .next (ρM zs C dx pa ka beg mo w (I6 G kvs') ds sz i c v12 v13 v14 v15 v16 v17 v18) σ'
theorem aM3 (L : CL G C N mN fm) (hx : G.x = false) (hd : 150 ≤ G.d) (S : Ls G dx b pa ka σ kvs rs hist kp) (hkp : kp.length ≤ 9000) {k : Nat} {one other : V} {num : Int} {s : List Nat} (o1 : one.ok = true) (o2 : other.ok = true) (W : WS G.dn g9 s9 (ρA C dx k one other num) (σB dx b (e8 50 rs) (hist.map fun h => e8 50 h.2)) (ao1 (.tup [.str s, .bool true]))) {v12 v18 : V} (hq : bi8 G C dx b pa ka zs beg mo w ds sz hist.length kp.length Q) :
  WS G A4 (LB.drop 9) (ρM zs C dx pa ka beg mo w (I6 G kvs) ds sz i c v12 (.int k) one other (.int num) (.tup [.str s, .bool true, I6 G kvs]) v18) σ Q :=
 f8 (b := false) (Tr.to (D7 (z8 (d7 (K5 3 L.t.alike L.t.whole (aN4 (s := s) (.tru 0)) (by exact bD7 hd)) (b8 (aC7 L.t.tried (bG8 S.tr S.ps) (b8 (a8 1 rfl) (b8 (a8 13 rfl) (b8 (a8 14 rfl o1) (b8 (a8 15 rfl o2) (b8 (a8 16 rfl) b9))))) rfl (by exact bD6 hd) W) (b8 (aO8 (a8 17 rfl)) b9))))) rfl) nT fun _ => d6 (ay4 L hx hd S hkp fun kp' σ' v18 S' hl => hq _ _ _ _ _ _ _ _ _ _ _ _ _ _ S' (Nat.le_succ _) hl)
theorem ay2 (L : CL G C N mN fm) (hx : G.x = false) (hd : 150 ≤ G.d) (S : Ls G dx b pa ka σ kvs rs hist kp) (hkp : kp.length ≤ 9000) {k : Nat} {one other v x7 : V} {num : Int} (o1 : one.ok = true) (o2 : other.ok = true) (pv : Pl 1 v) {kvs' rs' : List Rw} {hist' : List (List Rw × List Rw)} (KV : Kv kvs' rs') (R : A0 rs') (hk : ∀ h ∈ hist', Kv h.1 h.2 ∧ A0 h.2) (hl : hist'.length ≤ hist.length + 1)
  (W : WS G.dn g9 s9 (ρA C dx k one other num) (σT σ0 dx b (e8 50 rs) (hist.map fun h => e8 50 h.2)) (trQ dx b fun x k' ps' => x = aV5 v ∧ k' = e8 50 rs' ∧ ps' = hist'.map fun h => e8 50 h.2)) {v12 v18 : V} (hq : bi8 G C dx b pa ka zs beg mo w ds sz hist.length kp.length Q) :
  WS G A4 (LB.drop 9) (ρM zs C dx pa ka beg mo w x7 ds sz i c v12 (.int k) one other (.int num) (.tup [.str (lit "told"), v, I6 G kvs']) v18) (σ.set pa (hist'.map fun h => I6 G h.1)) Q := by
 refine aZ3 (aM4 (ba2 (v := true) (aT4 (x := aV5 v) (K5 3 L.t.alike L.t.whole (aN4 pv) (by exact bD7 hd)) (bf0 L.t.tried ((Ow.set_ne _ _ S.d2).trans S.tr) ((Ow.set_ne _ _ S.n1).trans S.ps) S.d1 (b8 (a8 1 rfl) (b8 (a8 13 rfl) (b8 (a8 14 rfl o1) (b8 (a8 15 rfl o2) (b8 (a8 16 rfl) b9))))) rfl (by exact bD6 hd) W) fun x' σ' h => ?_) fun x σ' h => h.1)) (fun σ' h => nomatch h.1) fun σ' h => d6 ?_
 ·obtain ⟨_, _, ⟨e, _⟩, _⟩ := h
  exact ⟨e, aO8 (a8 17 rfl)⟩
 ·obtain ⟨_, _, k', ps', ⟨_, rfl, rfl⟩, rfl⟩ := h
  exact ay4 L hx hd (S.did KV R hk) hkp fun kp' σ' v18 S' hkl => hq _ _ _ _ _ _ _ _ _ _ _ _ _ _ S' hl hkl
theorem bq9 (L : CL G C N mN fm) (KV : Kv kvs rs) (R : A0 rs) {one other : V} {b1 b2 : Bool} {num : Int} (h1 : Td one b1) (h2 : Td other b2) (hd : 150 ≤ G.d) : ∃ z, af7 G kvs 5 one other num z := by
 have nn : (!b1 || (decide ((2 : Int) < (5 : Nat)) && !b2)) = true → ∃ z, af7 G kvs 5 one other num z := fun hb => ⟨_, (bg7 (G := G.ex) L.t.f.due L.t.f.named h1 h2 hb (by show 2 ≤ G.d; exact o5 _ (.k 1 (.num 150) c8 .o) I7 c8 tt hd)).of_ex⟩
 cases b1 with
 | false => exact nn rfl
 | true =>
  cases b2 with
  | false => exact nn rfl
  | true =>
   obtain ⟨n, rfl, _, hn⟩ := h1.tx.name
   obtain ⟨o, rfl, _, ho⟩ := h2.tx.name
   exact ⟨_, (bg8 (G := G.ex) rfl L.t.f.sy L.t.f.due L.t.f.named L.t.f.branch KV R.r hn ho h1 h2 (by decide) (by show 2 ≤ G.d; exact o5 _ (.k 1 (.num 150) c8 .o) I7 c8 tt hd)).of_ex⟩
theorem bm0 (L : CL G C N mN fm) (hx : G.x = false) (hd : 150 ≤ G.d) (S : Ls G dx b pa ka σ kvs rs hist kp) (hkp : kp.length ≤ 9000) (hh : hist.length ≤ 900) {k : Nat} {one other : V} {b1 b2 : Bool} {num : Int} (hk : k < 6) (t1 : Td one b1) (t2 : Td other b2) {v12 v17 v18 : V} (hq : bi8 G C dx b pa ka zs beg mo w ds sz hist.length kp.length Q) :
  WS G A4 (LB.drop 7) (ρM zs C dx pa ka beg mo w (I6 G kvs) ds sz i c v12 (.int k) one other (.int num) v17 v18) σ Q := by
 have o1 := t1.tx.ok
 have o2 := t2.tx.ok
 have hps : (hist.map fun h => e8 50 h.2).length ≤ 1000 := by rw [List.length_map]; exact o5 _ (.k 1 c8 (.num 900) .o) c8 (.num 1000) tt hh
 by_cases hk5 : k = 5
 ·subst hk5
  obtain ⟨z, hz⟩ := bq9 (num := num) L S.kv S.r t1 t2 hd
  refine i8 17 (d7 hz (b8 (a8 7 rfl) (b8 (a8 13 rfl) (b8 (a8 14 rfl o1) (b8 (a8 15 rfl o2) (b8 (a8 16 rfl) b9)))))) ?_
  refine f8 (b := true) (d8 (a8 13 rfl) c9 m7) (fun _ => i8 17 (n6 (b8 (i0 (lit "nothing done")) (b8 y7 (b8 (a8 7 rfl) b9))) sz3) ?_) nF
  rcases G5 hist with rfl | ⟨h', ⟨k', r'⟩, rfl⟩
  ·obtain ⟨Xd, hXd⟩ := L.x.nd
   exact f8 (b := false) (Tr.to (ba3 (a8 2 rfl) S.fp) rfl) nT fun _ => d6 (d6 (aM3 L hx hd S hkp o1 o2 (bc6 (G := G.dn) L.t.f.word hXd hx (by show 0 < G.d - 1; exact bJ4 hd) (bn8 L.m.dn hXd.cls S.d1 (by show 0 < G.d - 1; exact bJ4 hd))) hq))
  ·have hl2 : h'.length + 1 ≤ 900 := by rw [List.length_append] at hh; exact hh
   have hkk := S.hk (k', r') (List.mem_append_right _ (List.mem_singleton.mpr rfl))
   have fp : σ pa = some (.lst ((h'.map fun h => I6 G h.1) ++ [I6 G k'])) := by have := S.fp; rw [List.map_append] at this; exact this
   refine f8 (b := true) (Tr.to (ba3 (a8 2 rfl) fp) (by cases h' <;> rfl)) (fun _ => ag7 17 (be9 (i0 (lit "told")) o9 (bq1 (a8 2 rfl) fp (by rw [List.length_map]; exact o5 _ (.k 1 i9 (.num 900) .o) c8 (.num 10000) tt hl2))) ?_) nF
   rintro z σ' ⟨u, rfl, rfl, rfl⟩
   refine d6 (d6 (ay2 L hx hd S hkp o1 o2 (.none 0) hkk.1 hkk.2 (fun q hq => S.hk q (List.mem_append_left _ hq)) (by rw [List.length_append]; exact n8 _ _ .o c8 (.add (.add c8 d5) k9) tt ) ?_ hq))
   rw [List.map_append]
   exact aY9 (G := G.dn) L.m.dn S.d1 (by rw [List.length_map]; exact o5 _ (.k 1 i9 (.num 900) .o) c8 (.num 1000) tt hl2) (by show 130 ≤ G.d - 1; exact bJ6 hd)
 ·have n5 : ((k : Int) == 5) = false := beq_eq_false_iff_ne.mpr (by exact fun q => (fun u1 => (Or.elim (ac9 hk5) (fun u2 => (f'1 _ (.k 1 c'5 c8 (.k 1 i9 c'5 .o)) tt (Nat.le_of_eq (Eq.symm u1)) u2)) (fun u3 => (f'1 _ (.k 1 i9 c'6 (.k 1 (.add c'5 k9) c8 .o)) tt hk u3)))) (Int.ofNat_inj.mp q))
  rcases bI1 (num := num) L.m L.x L.t.f hx S.d1 S.r S.kv hps (by exact o5 _ (.k 1 (.num 150) c8 .o) (.num 140) c8 tt hd) t1 t2 (show k < 5 by exact Or.elim (ac9 hk5) (fun u2 => (o5 _ (.k 1 i9 c'5 .o) i9 c'5 tt u2)) (fun u3 => (o5 _ (.k 2 i9 c'6 (.k 1 (.add c'5 k9) c8 .o)) i9 c'5 tt hk u3))) with ⟨s, hs, du, W⟩ | ⟨v, kvs', rs', pv, R', KV', du, W⟩
  ·refine i8 17 (d7 du (b8 (a8 7 rfl) (b8 (a8 13 rfl) (b8 (a8 14 rfl o1) (b8 (a8 15 rfl o2) (b8 (a8 16 rfl) b9)))))) ?_
   exact f8 (b := false) (Tr.to (d8 (a8 13 rfl) c9 m7) n5) nT fun _ => f8 (b := false) (Tr.to (d8 (o6 (a8 17 rfl) c9 (by decide) (by decide) rfl) (i0 (lit "told")) J9) (beq_eq_false_iff_ne.mpr hs)) nT fun _ => d6 (d6 (aM3 L hx hd S hkp o1 o2 W hq))
  ·refine i8 17 (d7 du (b8 (a8 7 rfl) (b8 (a8 13 rfl) (b8 (a8 14 rfl o1) (b8 (a8 15 rfl o2) (b8 (a8 16 rfl) b9)))))) ?_
   refine f8 (b := false) (Tr.to (d8 (a8 13 rfl) c9 m7) n5) nT fun _ => f8 (b := true) (d8 (o6 (a8 17 rfl) c9 (by decide) (by decide) rfl) (i0 (lit "told")) J9) (fun _ => B0 (a8 2 rfl) S.fp (a8 7 rfl) (by rw [List.length_map, C5]; exact o5 _ (.k 1 c8 (.num 900) .o) c8 (.num 16777216) tt hh) (d6 (d6 ?_))) nF
   have ty := ay2 (zs := zs) (ds := ds) (beg := beg) (mo := mo) (sz := sz) (c := c) (i := i) (w := w) (x7 := I6 G kvs) (v12 := v12) (v18 := v18) (hist' := hist ++ [(kvs, rs)]) L hx hd S hkp o1 o2 pv KV' R' (fun q hq => (List.mem_append.mp hq).elim (S.hk q) fun e => by rw [List.mem_singleton.mp e]; exact ⟨S.kv, S.r⟩) (by rw [List.length_append]; exact Nat.le_refl _) (by rw [List.map_append]; exact W) hq
   rw [List.map_append] at ty
   exact ty
end
section
variable {G : Gl} {C N dx b pa ka : Addr} {mN : Str → Option Value} {fm : Str → Addr} {rs kvs : List Rw} {hist : List (List Rw × List Rw)} {kp zs ds : List V} {ρ : List V} {σ : Ow} {Q : KS} {beg mo sz c : Int} {i : Nat} {w : List Nat}
theorem K3 {k : Nat} {a o : List Nat} (hk : k < 6) (ha : a.all R8 = true) (hal : a.length ≤ 1000) (ho : o.all R8 = true) (hol : o.length ≤ 1000) : an6 (.tup [.int k, .str a, .str o]) := ⟨k, _, _, _, _, hk, ae5 ha hal, ae5 ho hol, rfl⟩
theorem bM8 : 3 ≤ sizeLine := by rw [C5]; exact bt9
theorem X0 {K : Sx} {e e' : PySem.Expr} {x y : V} {k : Int} {n kc : Nat} {p q : Pos} (h1 : Ev G K ρ σ e x) (h2 : Ev G K ρ σ e' y) (hs : [e, e'].all f0 = true := by rfl) : True ∧ Ev G K ρ σ (.Tuple [.Constant (.int k) kc q, e, e'] n p) (.tup [.int k, x, y]) := ⟨trivial, n6 (b8 c9 (b8 h1 (b8 h2 b9))) bM8 (by rw [List.all_cons, hs]; rfl)⟩
theorem bw8 {K : Sx} {e1 e2 e3 e4 : PySem.Expr} {x1 x2 x3 x4 : V} {p : Pos} (h1 : True ∧ Ev G K ρ σ e1 x1) (h2 : True ∧ Ev G K ρ σ e2 x2) (h3 : True ∧ Ev G K ρ σ e3 x3) (h4 : True ∧ Ev G K ρ σ e4 x4) (hs : [e1, e2, e3, e4].all f0 = true) : True ∧ Ev G K ρ σ (.List [e1, e2, e3, e4] p) (.lst [x1, x2, x3, x4]) := ⟨trivial, z6 (b8 h1.2 (b8 h2.2 (b8 h3.2 (b8 h4.2 b9)))) (by rw [C5]; show 4 ≤ _; exact l'0  .o c'4 (.num 16777216) tt ) hs⟩
theorem bH9 {K : Sx} {e1 e2 : PySem.Expr} {x1 x2 : V} {p : Pos} (h1 : True ∧ Ev G K ρ σ e1 x1) (h2 : True ∧ Ev G K ρ σ e2 x2) (hs : [e1, e2].all f0 = true) : True ∧ Ev G K ρ σ (.List [e1, e2] p) (.lst [x1, x2]) := ⟨trivial, z6 (b8 h1.2 (b8 h2.2 b9)) (by rw [C5]; show 2 ≤ _; exact W3 ) hs⟩
theorem bl5 {K : Sx} {ss r : List Stmt} {n : Str} {q q' p : Pos} {x : V} {es : List PySem.Expr} (i : Nat) (h1 : True ∧ Ev G K ρ σ (.List es q') x) (h2 : True ∧ WS G K r (ρ.set i x) σ Q) (hx : w0 K i n = true) (hss : ss = .Assign [.Name n q] (.List es q') p :: r) : True ∧ WS G K ss ρ σ Q := by subst hss; exact ⟨trivial, i8 i h1.2 h2.2 hx fun _ _ => rfl⟩
theorem aL6 {K : Sx} {ss r : List Stmt} {p : Pos} {x : V} {e : PySem.Expr} (h1 : True ∧ Ev G K ρ σ e x) (hq : Q (.ret x) ρ σ) (hss : ss = .Return (some e) p :: r) : True ∧ WS G K ss ρ σ Q := by subst hss; exact ⟨trivial, g8 h1.2 hq⟩
theorem ai2 {K : Sx} {ss a r : List Stmt} {e : PySem.Expr} {p : Pos} {v : Bool} (h1 : Tr G K ρ σ e v) (ht : v = true → True ∧ WS G K a ρ σ (Kc G K r Q)) (hf : v = false → True ∧ WS G K r ρ σ Q) (hss : ss = .If e a [] p :: r) : True ∧ WS G K ss ρ σ Q := by subst hss; exact ⟨trivial, f8 h1 (fun h => (ht h).2) fun h => d6 (hf h).2⟩
theorem bq7 {K : Sx} {l r : PySem.Expr} {xs ys : List V} {p : Pos} (h1 : Ev G K ρ σ l (.lst xs)) (h2 : True ∧ Ev G K ρ σ r (.lst ys)) (h : xs.length + ys.length ≤ sizeLine) : True ∧ Ev G K ρ σ (.BinOp l .Add r p) (.lst (xs ++ ys)) := ⟨trivial, aa6 h1 h2.2 h⟩
theorem ak1 {f : Str} {K : Sx} {np : Nat} {sts : List Stmt} {xs : List V} {z : V} (FA : FnAt G.B G.mg f K np sts) (hlen : xs.length = np) (hd : 0 < G.d) (h : True ∧ WS G.dn K sts (xs ++ List.replicate (K.ns.length - np) .unb) σ0 (ao1 z)) : Pure G f xs z := l7 FA hlen hd h.2
noncomputable def aq2 : List Stmt → List Stmt
 | .If _ a _ _ :: _ => a
 | _ => []
theorem nf {P : Prop} (h : false = true) : P := nomatch h
theorem nt {P : Prop} (h : true = false) : P := nomatch h
theorem br9 (FA : N7 G) (hw : w.all R8 = true) (hwl : w.length = 40) (hd : 0 < G.d) : ∃ ds, Pure G "_law_first_deeds" [.int beg, .str w] (.lst ds) ∧ (∀ x ∈ ds, an6 x) ∧ ds.length ≤ 10 := by
 have d4 : ∀ {p : V → Prop} {a b c d : V}, p a → p b → p c → p d → ∀ x ∈ [a, b, c, d], p x := fun ha hb hc hd x hx => by
  rcases List.mem_cons.mp hx with rfl | hx
  ·exact ha
  rcases List.mem_cons.mp hx with rfl | hx
  ·exact hb
  rcases List.mem_cons.mp hx with rfl | hx
  ·exact hc
  ·rw [List.mem_singleton.mp hx]; exact hd
 have e39 : slice w none (some (39 : Int)) = w.take 39 := B7 w 39
 by_cases b1 : beg = 1
 ·subst b1
  refine ⟨[.tup [.int (4 : Nat), .str (lit "z"), .str (lit "y")], .tup [.int (0 : Nat), .str (lit "yy"), .str (lit "")], .tup [.int (0 : Nat), .str (w ++ lit "a"), .str (lit "")], .tup [.int (0 : Nat), .str (lit "0"), .str (lit "")]] ++ [.tup [.int (4 : Nat), .str (lit ""), .str (lit "a")], .tup [.int (4 : Nat), .str (lit ""), .str (slice w none (some 39))]], ?_, ?_, by show 6 ≤ 10; exact l'0  .o c'6 (.num 10) tt ⟩
  ·refine ak1 FA rfl hd (ai2 (v := true) (a := aq2 m9) (r := m9.drop 1) (d8 (a8 0 rfl) c9 m7) (fun _ => ?_) nt rfl)
   refine bl5 (r := (aq2 m9).drop 1) 2 (bw8 (X0 (i0 (lit "z")) (i0 (lit "y"))) (X0 (i0 (lit "yy")) (i0 (lit ""))) (X0 (E7 (a8 1 rfl) (i0 (lit "a")) ?_) (i0 (lit ""))) (X0 (i0 (lit "0")) (i0 (lit ""))) rfl) ?_ (by decide +kernel) rfl
   ·rw [C5, hwl]; decide
   refine aL6 (bq7 (a8 2 rfl) (bH9 (X0 (i0 (lit "")) (i0 (lit "a"))) (X0 (i0 (lit "")) (E9 (a8 1 rfl) z9 (w7 c9) ?_)) rfl) ?_) (.id _) rfl
   ·rw [C5]; exact bE3 hwl
   ·rw [C5]; show 4 + 2 ≤ _; exact l'0  .o (.add c'4 I7) (.num 16777216) tt
  ·intro x hx
   rcases List.mem_append.mp hx with hx | hx
   ·exact d4 (p := an6) (K3 (by decide) rfl (by decide) rfl (by decide)) (K3 (by decide) rfl (by decide) rfl (by decide)) (K3 (by decide) (by rw [List.all_append, hw]; rfl) (by rw [List.length_append, hwl]; decide) rfl (by decide)) (K3 (by decide) rfl (by decide) rfl (by decide)) x hx
   ·rcases List.mem_cons.mp hx with rfl | hx
    ·exact K3 (by decide) rfl (by decide) rfl (by decide)
    ·rw [List.mem_singleton.mp hx, e39]
     exact K3 (by decide) rfl (by decide) (ab1 hw) (by rw [List.length_take]; exact bZ6 )
 ·have n1 : (beg == 1) = false := beq_eq_false_iff_ne.mpr b1
  by_cases b3 : beg = 3
  ·subst b3
   refine ⟨[.tup [.int (3 : Nat), .str (lit "p"), .str (lit "qq")], .tup [.int (4 : Nat), .str (lit "p"), .str (lit "qq")], .tup [.int (3 : Nat), .str (lit "zz"), .int 7], .tup [.int (0 : Nat), .str (lit "p"), .str (lit "")]], ?_, ?_, by decide⟩
   ·refine ak1 FA rfl hd (ai2 (v := false) (a := aq2 m9) (r := m9.drop 1) (d8 (a8 0 rfl) c9 m7) nf (fun _ => ?_) rfl)
    refine ai2 (v := true) (a := aq2 (m9.drop 1)) (r := m9.drop 2) (d8 (a8 0 rfl) c9 m7) (fun _ => ?_) nt rfl
    exact aL6 (bw8 (X0 (i0 (lit "p")) (i0 (lit "qq"))) (X0 (i0 (lit "p")) (i0 (lit "qq"))) (X0 (i0 (lit "zz")) c9) (X0 (i0 (lit "p")) (i0 (lit ""))) rfl) (.id _) rfl
   ·exact d4 (p := an6) (K3 (by decide) rfl (by decide) rfl (by decide)) (K3 (by decide) rfl (by decide) rfl (by decide)) ⟨3, _, _, _, _, by decide, ae5 (w := lit "zz") rfl (by decide), .int 7, rfl⟩ (K3 (by decide) rfl (by decide) rfl (by decide))
  ·have n3 : (beg == 3) = false := beq_eq_false_iff_ne.mpr b3
   refine ⟨[], ak1 FA rfl hd (ai2 (v := false) (a := aq2 m9) (r := m9.drop 1) (Tr.to (d8 (a8 0 rfl) c9 m7) n1) nf (fun _ => ai2 (v := false) (a := aq2 (m9.drop 1)) (r := m9.drop 2) (Tr.to (d8 (a8 0 rfl) c9 m7) n3) nf (fun _ => ⟨trivial, g8 (z6 b9 sz0) (.id _)⟩) rfl) rfl), fun x hx => (by cases hx), by decide⟩
end
section
variable {G : Gl} {C N dx b pa ka : Addr} {mN : Str → Option Value} {fm : Str → Addr} {rs kvs : List Rw} {hist : List (List Rw × List Rw)} {kp ds : List V} {ρ : List V} {σ : Ow} {Q : KS} {beg mo sz c : Int} {i : Nat} {w : List Nat}
noncomputable abbrev σP (dx b pa : Addr) : Ow := (σT σ0 dx b .none []).set pa []
theorem ax7 (hne : dx ≠ b) (h1 : pa ≠ dx) (h2 : pa ≠ b) {a : Addr} {c : Oc} (q : σP dx b pa a = some c) : c.plain = true ∧ c.rw = true ∧ (a = dx ∨ a = b ∨ a = pa) := by
 by_cases hp : a = pa
 ·subst hp; cases (Ow.set_self ..).symm.trans q; exact ⟨rfl, rfl, .inr (.inr rfl)⟩
 ·have q := (Ow.set_ne _ _ hp).symm.trans q
  by_cases hb : a = b
  ·subst hb; cases G1.symm.trans q; exact ⟨rfl, rfl, .inr (.inl rfl)⟩
  ·by_cases hd : a = dx
   ·subst hd; cases (s8 hne).symm.trans q; exact ⟨rfl, rfl, .inl rfl⟩
   ·exact nS ((M5 hd hb).symm.trans q)
theorem aT5 (L : CL G C N mN fm) (hne : dx ≠ b) (h1 : pa ≠ dx) (h2 : pa ≠ b) (h3 : σP dx b pa ka = none) (hd : 150 ≤ G.d) (hw : w.all R8 = true) (hwl : w.length = 40) (hm0 : 0 ≤ mo) (hm : mo ≤ 3) {es : List PySem.Expr} {q p : Pos} (ha : EvL G A4 ρ ((σP dx b pa).set ka []) es [C3 C dx, .ref pa, .int beg, .str w, .int mo]) (hs : es.all f0 = true := by rfl) :
  EvM G A4 ρ ((σP dx b pa).set ka []) (.Call (.Name "_law_begun" q) es [] p) fun x σ' => ∃ kvs rs hist, x = I6 G kvs ∧ Ls G dx b pa ka σ' kvs rs hist [] ∧ hist.length ≤ 20 := by
 have e1 : σP dx b pa dx = some (.tr true (e8 50 []) b) := (Ow.set_ne _ _ h1.symm).trans (s8 hne)
 have e2 : σP dx b pa b = some (.lst []) := (Ow.set_ne _ _ h2.symm).trans G1
 have e3 : σP dx b pa pa = some (.lst []) := Ow.set_self ..
 have nk : ∀ {a c}, σP dx b pa a = some c → a ≠ ka := fun {a c} q => by rintro rfl; exact nS (h3.symm.trans q)
 refine aC4 (X' := true) (σc := σP dx b pa) (Qc := aW2 (G.wx true).dn dx b pa (σP dx b pa)) (.inl rfl) L.begun ha rfl (by exact bD6 hd) (fun a c q => ?_) (bs0 (G := (G.wx true).dn) L.m.wx.dn rfl L.t.f.sy h2.symm (by show 130 ≤ G.d - 1; exact bJ6 hd) e1 e2 e3 hw hwl hm0 hm) (fun fl ρ' σ₃ hq => ?_) hs (by decide +kernel)
 ·exact ⟨c, (Ow.set_ne _ _ (nk q)).trans q, id, fun F o t => t.mode (ax7 hne h1 h2 q).1⟩
 ·obtain ⟨d, kvs, rs, hist, rfl, hdn, hds, S, hh⟩ := hq
  have dl : ∀ {a}, (a = dx ∨ a = b ∨ a = pa) → ∃ c, σP dx b pa a = some c ∧ c.rw = true := fun {a} h => by
   rcases h with rfl | rfl | rfl
   ·exact ⟨_, e1, rfl⟩
   ·exact ⟨_, e2, rfl⟩
   ·exact ⟨_, e3, rfl⟩
  refine ⟨.ref d, I6 G kvs, σT (((σP dx b pa).set ka []).set pa (hist.map fun h => I6 G h.1)) dx b (e8 50 rs) (hist.map fun h => e8 50 h.2), .inl rfl, ?_, fun a h => ?_, fun a c h q => ?_, kvs, rs, hist, rfl, ?_, hh⟩
  ·exact Res.gen (P := isD G.prog G.w kvs) ((if_pos hdn).trans S.pl) fun o h => ⟨hds, h⟩
  ·have n1 : a ≠ dx := fun e => h (dl (.inl e))
   have n2 : a ≠ b := fun e => h (dl (.inr (.inl e)))
   have n3 : a ≠ pa := fun e => h (dl (.inr (.inr e)))
   exact (M5 n1 n2).trans (Ow.set_ne _ _ n3)
  ·obtain ⟨c', q', _⟩ := h
   rcases (ax7 hne h1 h2 q').2.2 with rfl | rfl | rfl
   ·cases (s8 hne).symm.trans q; exact ⟨S.tr, rfl⟩
   ·cases G1.symm.trans q; exact ⟨S.ps, rfl⟩
   ·cases ((M5 h1 h2).trans (Ow.set_self ..)).symm.trans q; exact ⟨S.pa, rfl⟩
  ·refine ⟨s8 hne, G1, (M5 h1 h2).trans (Ow.set_self ..), (M5 (nk e1).symm (nk e2).symm).trans ((Ow.set_ne _ _ (nk e3).symm).trans (Ow.set_self ..)), S.kv, S.kp, S.hk, fun x hx => (by cases hx), h2.symm, nk e2, nk e3⟩
theorem aR2 {α : Type} {l : List α} {m n : Option Int} {x : α} (h : x ∈ slice l m n) : x ∈ l := List.mem_of_mem_take (List.mem_of_mem_drop h)
theorem bp4 (L : CL G C N mN fm) (S : Ls G dx b pa ka σ kvs rs hist kp) (hkp : kp.length ≤ 1000) (hd : 150 ≤ G.d) {zs : List V} {x7 v10 v11 v12 v13 v14 v15 v16 v17 v18 : V} : WS G A4 (aQ0.drop 10) [.scr zs, C3 C dx, .ref pa, .ref ka, .int beg, .int mo, .str w, x7, .lst ds, .int sz, v10, v11, v12, v13, v14, v15, v16, v17, v18] σ (ao1 (.bool true)) := by
 have e0 : ∀ l : List V, (l.filterMap fun _ => (none : Option V)) = [] := fun l => by induction l with | nil => rfl | cons a l ih => rw [List.filterMap_cons]; exact ih
 refine g8 (Ev.to (Q9 (H4 (F0 (N4 L.m.most) c9 m7) fun _ => Q5 (bB4 3 rfl S.fk (F0 (aa5 (caps := []) (Fv := fun x : V => x) (ts := kp) (fun _ => none) (a8 3 rfl) (by show some _ = some _; rw [List.map_id']) (by rw [C5]; exact aE1 hkp) (fun x hx => ?_)) (z6 b9 sz0) ad6)))) ?_) (.id _)
 ·obtain ⟨r, R, rfl⟩ := S.hp x hx
  have hrn := R.n
  exact V5 (b := false) (z := .none) (Tr.to (D7 (z8 (d7 (K5 3 L.t.alike L.t.whole (au4 (n := 0) r (by exact o5 _ (.k 1 c8 (.num 100) .o) c8 (.num 1000) tt hrn)) (by exact bD7 hd)) (b8 (o6 (a8 0 rfl) c9 (by decide) (by decide) rfl) (b8 (o6 (a8 0 rfl) c9 (by decide) (by decide) rfl) b9))))) rfl) (fun h => nomatch h)
 ·rw [e0]; rfl
inductive ca1 (G : Gl) (C dx b pa ka : Addr) (zs : List V) (m n : Int) (w : List Nat) (ds : List V) (sz : Int) (i : Nat) (ρ : List V) (σ : Ow) : Prop
 | mk (kvs rs : List Rw) (hist : List (List Rw × List Rw)) (kp : List V) (v10 v11 v12 v13 v14 v15 v16 v17 v18 : V) (S : Ls G dx b pa ka σ kvs rs hist kp) (h1 : hist.length ≤ 20 + i) (h2 : kp.length ≤ i) (e : ρ = [.scr zs, C3 C dx, .ref pa, .ref ka, .int m, .int n, .str w, I6 G kvs, .lst ds, .int sz, v10, v11, v12, v13, v14, v15, v16, v17, v18])
theorem bH3 {fI : Addr} (L : CL G C N mN fm) (I : aP9 G mN fI) (hx : G.x = false) (hG : 600 ≤ G.d) {zs : List Int} (hz : zs.length ≤ 63) : WS G A4 aQ0 (.scr (zs.map .int) :: List.replicate (A4.ns.length - 1) .unb) σ0 (ao1 (.bool true)) := by
 have hzl : (zs.map V.int).length = zs.length := List.length_map ..
 have ec : ∀ {ρ : List V} {σ : Ow} {q q' q'' p : Pos} {kc : Nat}, ρ[0]? = some (.scr (zs.map .int)) → Ev G A4 ρ σ (.Call (.Name "_law_cell_at" q) [.Name "_law_script" q', .Constant (.int 0) kc q''] [] p) (.int (zs.getD 0 0)) := fun h => d7 (aU5 L.cell hz (by decide) (by exact o5 _ (.k 1 (.num 600) c8 .o) (.add w9 k9) c8 tt hG)) (b8 (a8 0 h) (b8 c9 b9))
 generalize zs.getD 0 0 = c0 at ec
 have hwl := P6 (c0 / 8) 40
 have hw := ag9 (c0 / 8) 40
 obtain ⟨ds, hF, hds, hdl⟩ := br9 (beg := c0 % 8) L.first hw hwl (by exact o5 _ (.k 1 (.num 600) c8 .o) (.add w9 k9) c8 tt hG)
 refine aZ0 1 L.m.t I (by exact o5 _ (.k 1 (.num 600) c8 .o) R4 c8 tt hG) fun dx b hne _ _ => ?_
 refine X3 2 fun pa hpa => ?_
 have h1 : pa ≠ dx := by rintro rfl; exact nS (hpa.symm.trans (s8 hne))
 have h2 : pa ≠ b := by rintro rfl; exact nS (hpa.symm.trans G1)
 refine X3 3 fun ka hka => ?_
 refine i8 4 (x9 (ec rfl) c9 (by decide)) (i8 5 (B3 (ec rfl) c9 (by decide) (by decide)) ?_)
 refine i8 6 (d7 (ad7 (n := 40) L.word L.sign (by decide) (by exact o5 _ (.k 1 (.num 600) c8 .o) (.add k9 k9) c8 tt hG)) (b8 (a8 5 rfl) (b8 c9 b9))) ?_
 refine ag7 7 (aT5 L hne h1 h2 hka (by exact bD4 hG) hw hwl (E8 _ (by decide)) (by have := Int.emod_lt_of_pos (c0 / 8) (b := 4) (by decide); exact bR1 this) (b8 (a8 1 rfl) (b8 (a8 2 rfl) (b8 (a8 4 rfl) (b8 (a8 6 rfl) (b8 (x9 (a8 5 rfl) c9 (by decide)) b9)))))) ?_
 rintro x σ ⟨kvs, rs, hist, rfl, S, hh⟩
 refine i8 8 (d7 hF (b8 (a8 4 rfl) (b8 (a8 6 rfl) b9))) ?_
 have hsz : ∃ sz : Int, [V.int 20, V.int 8][(if (c0 % 8 == 1) then (1 : Int) else 0).toNat]? = some (.int sz) ∧ sz ≤ 20 := by
  cases c0 % 8 == 1
  ·exact ⟨20, rfl, by decide⟩
  ·exact ⟨8, rfl, by decide⟩
 obtain ⟨sz, hsz, hsz20⟩ := hsz
 refine i8 9 (B2 (z6 (b8 (B2 (i := 0) (z6 (b8 c9 (b8 c9 b9)) (by rw [C5]; show 2 ≤ _; exact W3 )) ((ah6 (F0 (aO9 (a8 0 rfl) (by rw [hzl]; exact o5 _ (.k 1 c8 (.num 63) .o) i9 (.num 4611686018427387904) tt hz)) c9 P1)).to (by rw [decide_eq_false (by rw [hzl]; exact fun q => (fun u1 => (f'1 _ (.k 1 c8 (.num 63) (.k 1 (.add (.num 63) k9) c8 .o)) tt hz u1)) (Int.ofNat_lt.mp q))]; rfl)) (by decide) (by decide) rfl) (b8 c9 b9)) (by rw [C5]; show 2 ≤ _; exact W3 )) (ah6 (F0 (a8 4 rfl) c9 m7)) (by split <;> decide) (by split <;> decide) hsz) ?_
 refine bl2 10 11 (ca1 G C dx b pa ka (zs.map .int) (c0 % 8) (c0 / 8) (N8 (c0 / 8) 40) ds sz) (bq3 (a8 0 rfl) (w7 c9) (w7 (H5 c9 (a8 9 rfl))) (by rw [hzl, C5]; exact o5 _ (.k 1 c8 (.num 63) .o) c8 (.num 16777216) tt hz)) ⟨_, _, _, _, _, _, _, _, _, _, _, _, _, S, hh, Nat.le_refl _, rfl⟩ ?_ ?_
 ·rintro i ρ σ y hy ⟨kvs, rs, hist, kp, v10, v11, v12, v13, v14, v15, v16, v17, v18, S, hh, hkp, rfl⟩
  obtain ⟨c, _, rfl⟩ := List.mem_map.mp (aR2 (List.mem_of_getElem? hy))
  have hi := (List.getElem?_eq_some_iff.mp hy).1
  have hs : (slice (zs.map V.int) (some 1) (some (1 + sz))).length ≤ 63 := by unfold slice; rw [List.length_drop, List.length_take, hzl]; exact bJ2 hz
  exact (ba0 L S.kv S.r hds hdl (by exact o5 _ (.k 1 (.num 600) c8 .o) (.num 140) c8 tt hG) fun k one other b1 b2 num hk t1 t2 => bm0 L hx (by exact bD4 hG) S (by exact z3 _ _ _ (.k 1 c8 d5 (.k 1 e9 (.num 63) (.k 1 y0 e9 .o))) c8 (.num 9000) tt hkp hs hi) (by exact z3 _ _ _ (.k 1 c8 (.add (.num 20) d5) (.k 1 e9 (.num 63) (.k 1 y0 e9 .o))) c8 (.num 900) tt hh hs hi) hk t1 t2 fun kvs' rs' hist' kp' σ' i' c' v12 v13 v14 v15 v16 v17 v18 S' hl1 hl2 => ⟨kvs', rs', hist', kp', _, _, _, _, _, _, _, _, _, S', by exact z3 _ _ _ (.k 1 c8 y0 (.k 1 d5 (.add (.num 20) e9) .o)) c8 (.add (.num 20) D9) tt hl1 hh, by exact z3 _ _ _ (.k 1 c8 y0 (.k 1 d5 e9 .o)) c8 D9 tt hl2 hkp, rfl⟩).2
 ·rintro ρ σ ⟨kvs, rs, hist, kp, v10, v11, v12, v13, v14, v15, v16, v17, v18, S, hh, hkp, rfl⟩
  have hs : (slice (zs.map V.int) (some 1) (some (1 + sz))).length ≤ 63 := by unfold slice; rw [List.length_drop, List.length_take, hzl]; exact bJ2 hz
  exact bp4 L S (by exact n8 _ _ (.k 1 c8 d5 (.k 1 d5 (.num 63) .o)) c8 (.num 1000) tt hkp hs) (by exact bD4 hG)
end
theorem Y5 {p : Program} {loose : List Str} {mean : ExcName → Option Value} {mg mb : Str → Option Value} {h : Heap} (T : Top p loose mean mg mb h) {x : Str} {i : Int} (hv : valOf p x = some (.int i)) : ∃ t, mg x = some (.int i t) := by
 obtain ⟨v, h1, r⟩ := T.const x _ hv
 have := r h
 cases this
 exact ⟨_, h1⟩
noncomputable def bB9 (p : Program) (loose : List Str) : Option ClsRec := (plainsOf p loose).find? fun c => c.name == ("Trail" : Str)
noncomputable def bo4 (p : Program) (loose : List Str) (f : Str) : Option MethRec := match bB9 p loose with
 | some c => c.meths.find? fun m => m.name == f
 | none => none
noncomputable def meB (p : Program) (loose : List Str) (f : Str) : List Stmt := match bo4 p loose f with | some m => m.body | none => []
noncomputable def meS (p : Program) (loose : List Str) (f : Str) : Scope := match bo4 p loose f with | some m => m.scope | none => default
noncomputable def bd2 (p : Program) (loose : List Str) (f : Str) (K : Sx) (np : Nat) : Bool := match bo4 p loose f with
 | some m => m.params.posonlyargs.isEmpty && (m.params.args.map (·.arg) == K.ns.take np) && m.params.kwonlyargs.isEmpty && m.params.vararg.isNone && m.params.kwarg.isNone && af3 K np
 | none => false
noncomputable def az7 (p : Program) (loose : List Str) : Bool := match bB9 p loose with | some c => c.quiet.contains "kept" && c.quiet.contains "past" | none => false
theorem bH2 {p : Program} {loose : List Str} {h : Heap} {c : ClsRec} {C N : Addr} {mN : Str → Option Value} (hc : bB9 p loose = some c) (P : PlainAt h c C N mN) {f : Str} {K : Sx} {np : Nat} {B : List Stmt} (hk : bd2 p loose f K np = true) (hs : meS p loose f = K.sc) (hb : meB p loose f = B) :
  ∃ fa, mN f = some (.ref fa) ∧ (∃ o, h.get? fa = some o ∧ o.cls = .type "function") ∧ FnO h fa K np B := by
 unfold bd2 at hk
 unfold meS at hs
 unfold meB at hb
 split at hk
 ·rename_i m hm
  rw [hm] at hs hb
  have hm' : c.meths.find? (fun m => m.name == f) = some m := by
   have := hm
   unfold bo4 at this
   rw [hc] at this
   exact this
  have hn : m.name = f := eq_of_beq (List.find?_some (p := fun m : MethRec => m.name == f) hm')
  obtain ⟨fa, o, pm, cd, doc, h1, h2, h3, h4, h5⟩ := P.meths m (List.mem_of_find?_eq_some hm')
  simp only [Bool.and_eq_true, List.isEmpty_iff, Option.isNone_iff_eq_none, beq_iff_eq] at hk
  obtain ⟨⟨⟨⟨⟨k1, k2⟩, k3⟩, k4⟩, k5⟩, k6⟩ := hk
  have k7 := k6
  unfold af3 at k7
  simp only [Bool.and_eq_true, decide_eq_true_eq] at k7
  refine ⟨fa, hn ▸ h1, ⟨o, h2, h3⟩, ⟨o, _, h2, h4, h5, congrArg _ hb, rfl, rfl, rfl, fun vs hl => ?_, hs⟩, k6⟩
  exact af5 k1 k2 k3 k4 k5 rfl (k7.1.2.sublist (List.take_sublist ..)) (by rw [List.length_take, Nat.min_eq_left k7.2]; exact hl)
 ·cases hk
theorem bG5 {p : Program} {loose : List Str} {mg mb : Str → Option Value} {h : Heap} {prog : Program} {w : World} {d : Nat} (TE : TopE p loose mg h) (hk : az7 p loose = true) :
  ∃ C N mN, TrC ⟨prog, w, h, mg, mb, d, false⟩ C N mN ∧ ∀ {f : Str} {K : Sx} {np : Nat} {B : List Stmt}, bd2 p loose f K np = true → meS p loose f = K.sc → meB p loose f = B → ∃ fa, mN f = some (.ref fa) ∧ (∃ o, h.get? fa = some o ∧ o.cls = .type "function") ∧ FnO h fa K np B := by
 unfold az7 at hk
 split at hk
 ·rename_i c hc
  simp only [Bool.and_eq_true, List.contains_iff_mem] at hk
  have hn : c.name = "Trail" := eq_of_beq (List.find?_some (p := fun c : ClsRec => c.name == ("Trail" : Str)) hc)
  obtain ⟨C, N, mN, hm, P'⟩ := TE c (List.mem_of_find?_eq_some hc)
  have P := P'.ofCmp
  have q : ∀ n, n ∈ (["__setattr__", "__getattribute__", "__getattr__"] : List Str) → mN n = none := fun n hn => P.quiet n (List.mem_append_left _ hn)
  exact ⟨C, N, mN, ⟨hn ▸ hm, P.cls, q _ (by decide), q _ (by decide), q _ (by decide), P.quiet _ hk.1, P.quiet _ hk.2⟩, fun k1 k2 k3 => bH2 hc P k1 k2 k3⟩
 ·cases hk
noncomputable def fmO (mN : Str → Option Value) (m : Str) : Addr := match mN m with | some (.ref a) => a | _ => 0
theorem J8 {G : Gl} {mN : Str → Option Value} {m : Str} {K : Sx} {np : Nat} {B : List Stmt} (h : ∃ fa, mN m = some (.ref fa) ∧ (∃ o, G.B.get? fa = some o ∧ o.cls = .type "function") ∧ FnO G.B fa K np B) (no : typeLookup (.type "object") m = pure none) (nk : m ≠ "kept") (np' : m ≠ "past") : Mth G mN m (fmO mN m) K np B := by
 obtain ⟨fa, h1, h2, h3⟩ := h
 have e : fmO mN m = fa := by unfold fmO; rw [h1]
 rw [e]
 exact ⟨h1, h2, h3, no, nk, np'⟩
theorem aR9 : typeLookup (.type "object") "become" = pure none := by rw [typeLookup_type, builtinLookup_eq_fast]; kernel_rfl
theorem ao2 : typeLookup (.type "object") "need_under" = pure none := by rw [typeLookup_type, builtinLookup_eq_fast]; kernel_rfl
theorem ao3 : typeLookup (.type "object") "need_short" = pure none := by rw [typeLookup_type, builtinLookup_eq_fast]; kernel_rfl
theorem bo9 : typeLookup (.type "object") "keep" = pure none := by rw [typeLookup_type, builtinLookup_eq_fast]; kernel_rfl
theorem bp0 : typeLookup (.type "object") "drop" = pure none := by rw [typeLookup_type, builtinLookup_eq_fast]; kernel_rfl
theorem bd4 : typeLookup (.type "object") "prune" = pure none := by rw [typeLookup_type, builtinLookup_eq_fast]; kernel_rfl
theorem bo8 : typeLookup (.type "object") "move" = pure none := by rw [typeLookup_type, builtinLookup_eq_fast]; kernel_rfl
theorem bd5 : typeLookup (.type "object") "graft" = pure none := by rw [typeLookup_type, builtinLookup_eq_fast]; kernel_rfl
theorem bp1 : typeLookup (.type "object") "back" = pure none := by rw [typeLookup_type, builtinLookup_eq_fast]; kernel_rfl
theorem bo6 : typeLookup (.type "object") "told" = pure none := by rw [typeLookup_type, builtinLookup_eq_fast]; kernel_rfl
theorem bo5 : typeLookup (.type "object") "tree" = pure none := by rw [typeLookup_type, builtinLookup_eq_fast]; kernel_rfl
theorem bo7 : typeLookup (.type "object") "size" = pure none := by rw [typeLookup_type, builtinLookup_eq_fast]; kernel_rfl
section
variable {G : Gl} {x t : Str} {C : Addr} {b b1 b2 b3 b4 b5 b6 b7 : Bool} {cs : List Nat}
theorem al5 (X : XC G x C) (P : ClsP G.mg G.B x) (XT : ∃ T, XC G t T) (m : O7 G.mg G.B x t b) : IN G C t b := by
 obtain ⟨T, hT⟩ := XT
 refine ⟨T, hT.own.bound, ?_⟩
 cases b
 ·exact bH6 X P hT m
 ·exact (bA2 X hT m).all
structure Kls (G : Gl) : Prop where
 te : ∃ C, XC G "TrailError" C
 c1 : ∃ C, XC G "NoName" C
 c2 : ∃ C, XC G "NotThere" C
 c3 : ∃ C, XC G "TooLong" C
 c4 : ∃ C, XC G "Taken" C
 c5 : ∃ C, XC G "TooMany" C
 c6 : ∃ C, XC G "NothingDone" C
 c7 : ∃ C, XC G "NoNote" C
 ve : G.mg "ValueError" = none ∧ G.mb "ValueError" = some (.type "ValueError")
 word : F8 G
theorem ad9 (L : Kls G) (hm : ∀ p ∈ MR, O7 G.mg G.B p.1 p.2.1 p.2.2) (hc : ∀ x ∈ MX, ClsP G.mg G.B x) (hxm : x ∈ MX) (hX : ∃ C, XC G x C) (hj : Txt.join ("" : Str) (wl (x == "NoName") (x == "NotThere") (x == "TooLong") (x == "Taken") (x == "TooMany") (x == "NothingDone") (x == "NoNote")) = txt cs) (hw : ((wl (x == "NoName") (x == "NotThere") (x == "TooLong") (x == "Taken") (x == "TooMany") (x == "NothingDone") (x == "NoNote")).map (·.length)).sum ≤ 10000) : ∃ C, Bad G x C cs := by
 obtain ⟨C, X⟩ := hX
 have P := hc x hxm
 have m : O7 G.mg G.B x "TrailError" := hm (x, "TrailError", true) (List.mem_append_left _ (List.mem_map.mpr ⟨x, hxm, rfl⟩))
 have my : ∀ y ∈ MY, O7 G.mg G.B x y (x == y) := fun y hy => hm (x, y, x == y) (List.mem_append_right _ (List.mem_flatMap.mpr ⟨x, hxm, List.mem_map.mpr ⟨y, hy, rfl⟩⟩))
 exact ⟨C, X, L.te, m, aQ6 L.word L.ve X (al5 X P L.c1 (my _ (by decide +kernel))) (al5 X P L.c2 (my _ (by decide +kernel))) (al5 X P L.c3 (my _ (by decide +kernel))) (al5 X P L.c4 (my _ (by decide +kernel))) (al5 X P L.c5 (my _ (by decide +kernel))) (al5 X P L.c6 (my _ (by decide +kernel))) (al5 X P L.c7 (my _ (by decide +kernel))) hj hw⟩
theorem bI2 (L : Kls G) (hm : ∀ p ∈ MR, O7 G.mg G.B p.1 p.2.1 p.2.2) (hc : ∀ x ∈ MX, ClsP G.mg G.B x) : CX G :=
 ⟨ad9 L hm hc (by decide +kernel) L.c1 (by decide +kernel) (by decide +kernel), ad9 L hm hc (by decide +kernel) L.c2 (by decide +kernel) (by decide +kernel), ad9 L hm hc (by decide +kernel) L.c3 (by decide +kernel) (by decide +kernel), ad9 L hm hc (by decide +kernel) L.c4 (by decide +kernel) (by decide +kernel), ad9 L hm hc (by decide +kernel) L.c5 (by decide +kernel) (by decide +kernel), ad9 L hm hc (by decide +kernel) L.c6 (by decide +kernel) (by decide +kernel)⟩
end
end Mine
open PySem PySem.W PyProof.Rows
namespace Mine
theorem w6 {p : Program} {loose : List Str} {mean : ExcName → Option Value} {mg mb : Str → Option Value} {h : Heap} (T : Top p loose mean mg mb h) {f : Str} {K : Sx} {np : Nat} {B : List Stmt} (hk : at7 p f ⟨K.ns, np⟩ = true := by decide +kernel) (hs : (match aN1 p f with | some d => d.scope | none => default) = K.sc := by kernel_rfl) (hb : aK1 p f = B := by kernel_rfl) : FnAt h mg f K np B := by
 have := by3 T hk
 rw [hb] at this
 have e : bm5 p f ⟨K.ns, np⟩ = K := by
  unfold bm5
  unfold at7 at hk
  split at hk
  ·rename_i d hd
   rw [hd] at hs
   cases K; cases hs; rfl
  ·cases hk
 rw [e] at this
 exact this
set_option maxHeartbeats 8000000 in
theorem final : PySem.Challenge.rw_uf020025_12.Holds := by
 w_on
 refine holds_law (by kernel_rfl) fun said => ?_
 refine holds_open (q := vw) (loose := []) (Xt := (fun s => ((MR.all fun p => aR7 s p.1 p.2.1 p.2.2) && MX.all (bg3 s)) && recOk (RowW.records (OpenRow.toRowW PySem.Challenge.rw_uf020025_12.row)) s)) (XP := fun mg h => MroP MR mg h ∧ ∀ x ∈ MX, ClsP mg h x) (Yf := Hook.obs Hook.none) (Ya := Hook.val Hook.none) (YP := Hook.says Hook.none) (N := 9000) left (Hook.of Hook.none) (Hook.keeps Hook.none) (fun s e => ⟨bo1 (Bool.and_eq_true_iff.mp (Bool.and_eq_true_iff.mp e).1).1, fun x hx => br4 (List.all_eq_true.mp (Bool.and_eq_true_iff.mp (Bool.and_eq_true_iff.mp e).1).2 x hx)⟩) (fun mg h h' x k => ⟨MroP.keeps mg h h' x.1 k, fun y hy => ClsP.keeps mg h h' (x.2 y hy) k⟩) (by rfl) (by rfl) (by rfl) (fun s e => recFacts_of (Bool.and_eq_true_iff.mp e).2) (by rfl) (by first | assumption | decide +kernel) (by decide +kernel) ⟨rfl, rfl, rfl, rfl, rfl, by decide +kernel⟩ ?hw ?hc
 (case hw => w_witness2)
 intro w s₀ s₁ mg mb G Y fa o pm cd doc dV kV ho hd' hcd hD hmg hg args vals as hpre hlay hrd hwl hlo
 refine Ground.open G ?_
 intro T B D TE TW
 wrow_args hpre hlay hrd hwl hlo
 all_goals (
  first | refine callC_kw (enter_call ?_) | refine enter_call ?_ | refine callC_kw (enter_callW ?_) | refine enter_callW ?_ | w_how)
 rename_i zs _ _ _ _ _ _ _ a vs _ hL _ _ _ hI _ hlen _
 let Gm : Gl := ⟨PySem.Challenge.rw_uf020025_12.row.prog, w, s₁.heap, mg, mb, 680, false⟩
 have GO : Gm.Ok := by2 T (by decide +kernel)
 have ef : Gl.fn Gm "law" = fa := by
  unfold Gl.fn fnA
  have : mg "law" = some (.ref fa) := hmg
  simp only [Gm, this]
 obtain ⟨C, N, mN, T0, hM⟩ := bG5 (prog := PySem.Challenge.rw_uf020025_12.row.prog) (w := w) (mb := mb) (d := 679) TE (by decide +kernel)
 obtain ⟨fI, i1, i2, i3⟩ := hM (f := "__init__") (K := ab4) (np := 1) (B := ab5) (by decide +kernel) (by kernel_rfl) (by kernel_rfl)
 have P : CP Gm.dn := ⟨w6 T, w6 T, w6 T, w6 T, w6 T, w6 T, w6 T, w6 T, w6 T, w6 T, w6 T, w6 T, w6 T, w6 T, w6 T, w6 T, w6 T, w6 T, w6 T, w6 T, aM6 T (by decide +kernel)⟩
 have W : CW Gm.dn := ⟨w6 T, w6 T, Y5 T (by kernel_rfl), Y5 T (by kernel_rfl), Y5 T (by kernel_rfl), Y5 T (by kernel_rfl)⟩
 have M : CM Gm.dn C N mN (fmO mN) := ⟨P, W, w6 T, Y5 T (by kernel_rfl), T0, J8 (hM (by decide +kernel) (by kernel_rfl) (by kernel_rfl)) aR9 (by decide) (by decide), J8 (hM (by decide +kernel) (by kernel_rfl) (by kernel_rfl)) ao2 (by decide) (by decide), J8 (hM (by decide +kernel) (by kernel_rfl) (by kernel_rfl)) ao3 (by decide) (by decide), J8 (hM (by decide +kernel) (by kernel_rfl) (by kernel_rfl)) bo9 (by decide) (by decide), J8 (hM (by decide +kernel) (by kernel_rfl) (by kernel_rfl)) bp0 (by decide) (by decide), J8 (hM (by decide +kernel) (by kernel_rfl) (by kernel_rfl)) bd4 (by decide) (by decide), J8 (hM (by decide +kernel) (by kernel_rfl) (by kernel_rfl)) bo8 (by decide) (by decide), J8 (hM (by decide +kernel) (by kernel_rfl) (by kernel_rfl)) bd5 (by decide) (by decide), J8 (hM (by decide +kernel) (by kernel_rfl) (by kernel_rfl)) bp1 (by decide) (by decide), J8 (hM (by decide +kernel) (by kernel_rfl) (by kernel_rfl)) bo6 (by decide) (by decide), J8 (hM (by decide +kernel) (by kernel_rfl) (by kernel_rfl)) bo5 (by decide) (by decide), J8 (hM (by decide +kernel) (by kernel_rfl) (by kernel_rfl)) bo7 (by decide) (by decide)⟩
 have Kl : Kls Gm.dn.dn := ⟨M7 T (by kernel_rfl), M7 T (by kernel_rfl), M7 T (by kernel_rfl), M7 T (by kernel_rfl), M7 T (by kernel_rfl), M7 T (by kernel_rfl), M7 T (by kernel_rfl), M7 T (by kernel_rfl), bm2 T (by decide +kernel), w6 T⟩
 have X : CX Gm.dn.dn := bI2 Kl G.X.1 G.X.2
 have F : CF Gm.dn := ⟨w6 T, w6 T, w6 T, w6 T, aM6 T (by decide +kernel)⟩
 have CTt : CT Gm.dn := ⟨F, w6 T, w6 T, w6 T⟩
 have L : CL Gm.dn C N mN (fmO mN) := ⟨M, X, CTt, w6 T, w6 T, w6 T, w6 T, w6 T, w6 T, w6 T, w6 T, w6 T⟩
 exact bp7 (G := Gm) (K := A4) (sts := aQ0) GO ef rfl rfl hg hL hI (fun _ => rfl) (bd8 _ _) (w6 T) (bH3 L ⟨i1, i2, i3⟩ rfl (by show 600 ≤ 680 - 1; decide) (by exact o5 _ (.k 1 c8 (.num 63) .o) c8 (.num 63) tt (Nat.le_of_not_lt (fun q => hlen (Int.ofNat_lt.mpr q)))))
end Mine
theorem PySem.Challenge.cw_uf020025_12_holds : PySem.Challenge.rw_uf020025_12.Holds :=
 Mine.final
