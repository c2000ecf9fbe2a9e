import PyProof.Rows.All
import Wide.All
import OpenK.AllK
import Wide.FinOn
import KE.KSortTup
import OpenK.KLine
import OpenK.KRaise
import PyProof.AssignAttr
import PyProof.CallFns
import PyProof.CallRoads
import PyProof.Calls
import PyProof.Cells
import PyProof.CompFree
import PyProof.CompUse
import PyProof.ConsumeWalk
import PyProof.Conv_int_bool
import PyProof.Dict
import PyProof.EqKinds
import PyProof.EvalArms
import PyProof.ExcBaseAll.ValueError
import PyProof.FString5
import PyProof.ForRange
import PyProof.InstLoad
import PyProof.InstStoreFacts
import PyProof.IsInstanceH
import PyProof.IsRules
import PyProof.IsiHeapPairs
import PyProof.IsiNone
import PyProof.IsiPairs
import PyProof.LetGo
import PyProof.ListIndexNeg
import PyProof.ListOps
import PyProof.NeKinds
import PyProof.P3Eq
import PyProof.PlainList
import PyProof.PureInt
import PyProof.RaisesMany
import PyProof.RangeFor
import PyProof.Rows.AttrNodeAny
import PyProof.Rows.CatchOwn
import PyProof.Rows.Chain
import PyProof.Rows.EqBoolInt
import PyProof.Rows.Exc
import PyProof.Rows.Lst
import PyProof.Rows.PlainEq
import PyProof.Rows.PlainNoArg
import PyProof.Rows.RuleB_floordiv
import PyProof.Rows.RuleB_mod
import PyProof.Rows.RuleB_small
import PyProof.Rows.SortRuns
import PyProof.Rows.SortShell
import PyProof.Rows.SortWalk
import PyProof.Rows.StrInSeq
import PyProof.Rows.StrInSeq3
import PyProof.Rows.StrSub
import PyProof.Rows.StrTemp
import PyProof.Rows.TopObj
import PyProof.Rows.TopTwo
import PyProof.Rows.Tup
import PyProof.Rules3
import PyProof.RulesMatch
import PyProof.Seq
import PyProof.SeqI
import PyProof.SliceList
import PyProof.SliceMore
import PyProof.SliceStr2
import PyProof.StrBlock
import PyProof.StrBlockI
import PyProof.StrCalls3
import PyProof.StrLaws
import PyProof.StrOps
import PyProof.StrWalks
import PyProof.TupleIter
import PyProof.TupleOfSeq
import PyProof.WalkInts
import PyProof.WalksMore
import PyProof.WalksPairs
import PySem.Challenge.RW_uf020025_02
set_option Elab.async false
set_option maxRecDepth 100000
set_option linter.all false
set_option genSizeOf false
set_option genInjectivity false
set_option autoImplicit false
set_option maxHeartbeats 4000000
set_option maxRecDepth 100000
namespace Mine
open PySem PyProof.Rows

/-! ## the model's sort, for keys whose comparison is quiet -/
abbrev KRow := PyProof.Rows.Keyed
def kk (K : KRow → Int) (a : Array KRow) (i : Nat) : Int := match a[i]? with
  | some x => K x
  | none => 0
def AllS (S : KRow → Prop) (a : Array KRow) : Prop := ∀ (i : Nat) (x : KRow), a[i]? = some x → S x
def SortedOn (K : KRow → Int) (a : Array KRow) (lo hi : Nat) : Prop := ∀ i j, lo ≤ i → i ≤ j → j < hi → kk K a i ≤ kk K a j

section
variable {M : Model} {A : Around} {E : Value → Shared → Prop} {s : Shared} {κ : SortKind} {S : KRow → Prop} {K : KRow → Int}
def LtOk (M : Model) (A : Around) (E : Value → Shared → Prop) (s : Shared) (κ : SortKind) (S : KRow → Prop) (K : KRow → Int) : Prop :=
  ∀ (x y : KRow) (st : SortSt) (Q : Option Bool → SortSt → Prop), S x → S y → PyProof.Rows.kindOf st = κ → Q (some (decide (K x < K y))) st → PyProof.Rows.wpS M A E s (lt' x y) Q st

theorem elem_ok {a : Array KRow} {i : Nat} {st : SortSt} {Q : KRow → SortSt → Prop} (hi : i < a.size) (h : ∀ x, a[i]? = some x → kk K a i = K x → Q x st) : PyProof.Rows.wpS M A E s (elem' a i) Q st := by
  rw [elem'_eq]
  have e : a[i]? = some a[i] := getElem?_pos a i hi
  rw [e]
  exact wpS_pure (h _ e (by unfold kk; rw [e]))

def gallop' : Bool → KRow → Array KRow → Nat → Nat → Nat → StateT SortSt Sem (Option Nat) := sortPriv% PySem.Builtin.gallop
theorem beyond_ok {left : Bool} {key : KRow} {arr : Array KRow} {base i : Nat} {st : SortSt} {Q : Option Bool → SortSt → Prop} (L : LtOk M A E s κ S K) (hk : S key) (hS : AllS S arr) (hst : PyProof.Rows.kindOf st = κ) (hi : base + i < arr.size)
    (h : Q (some (decide (kk K arr (base + i) < K key + (if left then 0 else 1)))) st) :
    PyProof.Rows.wpS M A E s (do let x ← elem' arr (base + i); if left then lt' x key else return (← lt' key x).map (!·)) Q st := by
  refine wpS_bind (elem_ok (K := K) hi fun x hx hkx => ?_)
  rw [hkx] at h
  cases left with
  | true => simp only [if_true, Int.add_zero] at h ⊢; exact L _ _ _ _ (hS _ _ hx) hk hst h
  | false =>
    simp only [Bool.false_eq_true, if_false] at h ⊢
    refine wpS_bind (L _ _ _ _ hk (hS _ _ hx) hst (wpS_pure ?_))
    have e : (!(decide (K key < K x))) = decide (K x < K key + 1) := by
      by_cases hc : K key < K x
      · rw [decide_eq_true hc, decide_eq_false (by (first | lia | omega))]; rfl
      · rw [decide_eq_false hc, decide_eq_true (by (first | lia | omega))]; rfl
    show Q (Option.map _ (some _)) st
    rw [Option.map_some, e]
    exact h

theorem gallop_ok {left : Bool} {key : KRow} {arr : Array KRow} {base n hint : Nat} {st : SortSt} {Q : Option Nat → SortSt → Prop} (L : LtOk M A E s κ S K) (hk : S key) (hS : AllS S arr) (hst : PyProof.Rows.kindOf st = κ) (hsz : base + n ≤ arr.size) (hh : hint < n) (hs : SortedOn K arr base (base + n))
    (h : ∀ k, k ≤ n → (∀ i, i < k → kk K arr (base + i) < K key + (if left then 0 else 1)) → (∀ i, k ≤ i → i < n → ¬ kk K arr (base + i) < K key + (if left then 0 else 1)) → Q (some k) st) :
    PyProof.Rows.wpS M A E s (gallop' left key arr base n hint) Q st := by
  unfold gallop'
  generalize hT : K key + (if left then (0 : Int) else 1) = T at h
  have mono : ∀ i j, i ≤ j → j < n → kk K arr (base + j) < T → kk K arr (base + i) < T := fun i j hij hj hb => Int.lt_of_le_of_lt (hs (base + i) (base + j) (by (first | lia | omega)) (by (first | lia | omega)) (by (first | lia | omega))) hb
  refine wpS_bind (beyond_ok L hk hS hst (by (first | lia | omega)) ?_)
  rw [hT]
  dsimp only
  by_cases hr : kk K arr (base + hint) < T
  · rw [decide_eq_true hr]
    simp only [if_true]
    refine wpS_bind (wpS_mono (wpS_forRange (I := fun x c st' => st = st' ∧ ∃ lastofs ofs, c = (none, lastofs, ofs) ∧ lastofs < ofs ∧ x + 1 ≤ ofs ∧ lastofs < n - hint ∧ kk K arr (base + (hint + lastofs)) < T)
      (Q := fun c st' => st = st' ∧ ∃ lastofs ofs, c = (none, lastofs, ofs) ∧ lastofs < ofs ∧ lastofs < n - hint ∧ kk K arr (base + (hint + lastofs)) < T ∧ (n - hint ≤ ofs ∨ ¬ kk K arr (base + (hint + ofs)) < T)) ?_ ?_ ⟨rfl, 0, 1, rfl, by (first | lia | omega), by (first | lia | omega), by (first | lia | omega), hr⟩) ?_)
    · rintro x c st' _ hx ⟨rfl, lastofs, ofs, rfl, g1, g2, g3, g4⟩
      dsimp only
      by_cases hge : ofs ≥ n - hint
      · rw [if_pos hge]; exact wpS_pure ⟨rfl, _, _, rfl, g1, g3, g4, .inl hge⟩
      · rw [if_neg hge]
        refine wpS_bind (beyond_ok L hk hS hst (by (first | lia | omega)) ?_)
        rw [hT]
        dsimp only
        by_cases hm : kk K arr (base + (hint + ofs)) < T
        · rw [decide_eq_true hm, if_neg (by decide)]
          exact wpS_pure ⟨rfl, _, _, rfl, by (first | lia | omega), by (first | lia | omega), by (first | lia | omega), hm⟩
        · rw [decide_eq_false hm, if_pos (by decide)]
          exact wpS_pure ⟨rfl, _, _, rfl, g1, g3, g4, .inr hm⟩
    · rintro c st' ⟨rfl, lastofs, ofs, rfl, g1, g2, g3, g4⟩
      exact ⟨rfl, _, _, rfl, g1, g3, g4, .inl (by (first | lia | omega))⟩
    · rintro c st' ⟨rfl, lastofs, ofs, rfl, g1, g2, g3, g4⟩
      dsimp only
      have low : ∀ i, i < hint + lastofs + 1 → kk K arr (base + i) < T := fun i hi' => mono i (hint + lastofs) (by (first | lia | omega)) (by (first | lia | omega)) g3
      have high : ∀ i, hint + min ofs (n - hint) ≤ i → i < n → ¬ kk K arr (base + i) < T := fun i h6 h7 hb => by
        rcases g4 with g4 | g4
        · (first | lia | omega)
        · exact g4 (mono _ i (by (first | lia | omega)) h7 hb)
      refine wpS_bind (wpS_mono (wpS_forRange (I := fun x c st' => st = st' ∧ ∃ lo hi, c = (none, lo, hi) ∧ lo ≤ hi ∧ hi ≤ n ∧ hi - lo ≤ n - x ∧ (∀ i, i < lo → kk K arr (base + i) < T) ∧ (∀ i, hi ≤ i → i < n → ¬ kk K arr (base + i) < T))
        (Q := fun c st' => st = st' ∧ ∃ lo hi, c = (none, lo, hi) ∧ lo = hi ∧ hi ≤ n ∧ (∀ i, i < lo → kk K arr (base + i) < T) ∧ (∀ i, hi ≤ i → i < n → ¬ kk K arr (base + i) < T)) ?_ ?_ ⟨rfl, _, _, rfl, by (first | lia | omega), by (first | lia | omega), by (first | lia | omega), low, high⟩) ?_)
      · rintro x c st' _ hx ⟨rfl, lo, hi, rfl, h1, h2, h3, h4, h5⟩
        dsimp only
        by_cases hge : lo ≥ hi
        · rw [if_pos hge]; exact wpS_pure ⟨rfl, lo, hi, rfl, by (first | lia | omega), h2, h4, h5⟩
        · rw [if_neg hge]
          refine wpS_bind (beyond_ok L hk hS hst (by (first | lia | omega)) ?_)
          rw [hT]
          dsimp only
          by_cases hm : kk K arr (base + (lo + (hi - lo) / 2)) < T
          · rw [decide_eq_true hm, if_pos rfl]
            exact wpS_pure ⟨rfl, _, _, rfl, by (first | lia | omega), h2, by (first | lia | omega), fun i hi' => mono i (lo + (hi - lo) / 2) (by (first | lia | omega)) (by (first | lia | omega)) hm, h5⟩
          · rw [decide_eq_false hm, if_neg (by decide)]
            exact wpS_pure ⟨rfl, _, _, rfl, by (first | lia | omega), by (first | lia | omega), by (first | lia | omega), h4, fun i h6 h7 hb => hm (mono _ i h6 h7 hb)⟩
      · rintro c st' ⟨rfl, lo, hi, rfl, h1, h2, h3, h4, h5⟩
        exact ⟨rfl, lo, hi, rfl, by (first | lia | omega), h2, h4, h5⟩
      · rintro c st' ⟨rfl, lo, hi, rfl, rfl, h2, h4, h5⟩
        exact wpS_pure (h lo h2 h4 h5)
  · rw [decide_eq_false hr]
    simp only [Bool.false_eq_true, if_false]
    refine wpS_bind (wpS_mono (wpS_forRange (I := fun x c st' => st = st' ∧ ∃ lastofs ofs, c = (none, lastofs, ofs) ∧ lastofs < ofs ∧ x + 1 ≤ ofs ∧ lastofs ≤ hint ∧ ¬ kk K arr (base + (hint - lastofs)) < T)
      (Q := fun c st' => st = st' ∧ ∃ lastofs ofs, c = (none, lastofs, ofs) ∧ lastofs < ofs ∧ lastofs ≤ hint ∧ ¬ kk K arr (base + (hint - lastofs)) < T ∧ (hint + 1 ≤ ofs ∨ (ofs ≤ hint ∧ kk K arr (base + (hint - ofs)) < T))) ?_ ?_ ⟨rfl, 0, 1, rfl, by (first | lia | omega), by (first | lia | omega), by (first | lia | omega), hr⟩) ?_)
    · rintro x c st' _ hx ⟨rfl, lastofs, ofs, rfl, g1, g2, g3, g4⟩
      dsimp only
      by_cases hge : ofs ≥ hint + 1
      · rw [if_pos hge]; exact wpS_pure ⟨rfl, _, _, rfl, g1, g3, g4, .inl hge⟩
      · rw [if_neg hge]
        refine wpS_bind (beyond_ok L hk hS hst (by (first | lia | omega)) ?_)
        rw [hT]
        dsimp only
        by_cases hm : kk K arr (base + (hint - ofs)) < T
        · rw [decide_eq_true hm, if_pos rfl]
          exact wpS_pure ⟨rfl, _, _, rfl, g1, g3, g4, .inr ⟨by (first | lia | omega), hm⟩⟩
        · rw [decide_eq_false hm, if_neg (by decide)]
          exact wpS_pure ⟨rfl, _, _, rfl, by (first | lia | omega), by (first | lia | omega), by (first | lia | omega), hm⟩
    · rintro c st' ⟨rfl, lastofs, ofs, rfl, g1, g2, g3, g4⟩
      exact ⟨rfl, _, _, rfl, g1, g3, g4, .inl (by (first | lia | omega))⟩
    · rintro c st' ⟨rfl, lastofs, ofs, rfl, g1, g2, g3, g4⟩
      dsimp only
      have low : ∀ i, i < hint + 1 - min ofs (hint + 1) → kk K arr (base + i) < T := fun i hi' => by
        rcases g4 with g4 | ⟨g4, g5⟩
        · (first | lia | omega)
        · exact mono i (hint - ofs) (by (first | lia | omega)) (by (first | lia | omega)) g5
      have high : ∀ i, hint - lastofs ≤ i → i < n → ¬ kk K arr (base + i) < T := fun i h6 h7 hb => g3 (mono _ i h6 h7 hb)
      refine wpS_bind (wpS_mono (wpS_forRange (I := fun x c st' => st = st' ∧ ∃ lo hi, c = (none, lo, hi) ∧ lo ≤ hi ∧ hi ≤ n ∧ hi - lo ≤ n - x ∧ (∀ i, i < lo → kk K arr (base + i) < T) ∧ (∀ i, hi ≤ i → i < n → ¬ kk K arr (base + i) < T))
        (Q := fun c st' => st = st' ∧ ∃ lo hi, c = (none, lo, hi) ∧ lo = hi ∧ hi ≤ n ∧ (∀ i, i < lo → kk K arr (base + i) < T) ∧ (∀ i, hi ≤ i → i < n → ¬ kk K arr (base + i) < T)) ?_ ?_ ⟨rfl, _, _, rfl, by (first | lia | omega), by (first | lia | omega), by (first | lia | omega), low, high⟩) ?_)
      · rintro x c st' _ hx ⟨rfl, lo, hi, rfl, h1, h2, h3, h4, h5⟩
        dsimp only
        by_cases hge : lo ≥ hi
        · rw [if_pos hge]; exact wpS_pure ⟨rfl, lo, hi, rfl, by (first | lia | omega), h2, h4, h5⟩
        · rw [if_neg hge]
          refine wpS_bind (beyond_ok L hk hS hst (by (first | lia | omega)) ?_)
          rw [hT]
          dsimp only
          by_cases hm : kk K arr (base + (lo + (hi - lo) / 2)) < T
          · rw [decide_eq_true hm, if_pos rfl]
            exact wpS_pure ⟨rfl, _, _, rfl, by (first | lia | omega), h2, by (first | lia | omega), fun i hi' => mono i (lo + (hi - lo) / 2) (by (first | lia | omega)) (by (first | lia | omega)) hm, h5⟩
          · rw [decide_eq_false hm, if_neg (by decide)]
            exact wpS_pure ⟨rfl, _, _, rfl, by (first | lia | omega), by (first | lia | omega), by (first | lia | omega), h4, fun i h6 h7 hb => hm (mono _ i h6 h7 hb)⟩
      · rintro c st' ⟨rfl, lo, hi, rfl, h1, h2, h3, h4, h5⟩
        exact ⟨rfl, lo, hi, rfl, by (first | lia | omega), h2, h4, h5⟩
      · rintro c st' ⟨rfl, lo, hi, rfl, rfl, h2, h4, h5⟩
        exact wpS_pure (h lo h2 h4 h5)
end
end Mine

set_option autoImplicit false
set_option maxRecDepth 100000
namespace Mine
open PySem PyProof.Rows

section
variable {K : KRow → Int} {a b out : List KRow} {ia ib k : Nat}
def Asc (K : KRow → Int) (l : List KRow) : Prop := l.Pairwise fun x y => K x ≤ K y
theorem Asc.take (h : Asc K a) (n : Nat) : Asc K (a.take n) := h.sublist (List.take_sublist _ _)
theorem Asc.drop (h : Asc K a) (n : Nat) : Asc K (a.drop n) := h.sublist (List.drop_sublist _ _)
theorem Asc.cut (h : Asc K a) (n : Nat) {x y : KRow} (hx : x ∈ a.take n) (hy : y ∈ a.drop n) : K x ≤ K y := by
  have : Asc K (a.take n ++ a.drop n) := by rw [List.take_append_drop]; exact h
  exact (List.pairwise_append.mp this).2.2 x hx y hy

structure Mrg (K : KRow → Int) (a b out : List KRow) (ia ib : Nat) : Prop where
  perm : out.Perm (a.take ia ++ b.take ib)
  sorted : Asc K out
  low : ∀ x ∈ out, ∀ y, y ∈ a.drop ia ∨ y ∈ b.drop ib → K x ≤ K y
theorem Mrg.swap (h : Mrg K a b out ia ib) : Mrg K b a out ib ia := ⟨h.perm.trans List.perm_append_comm, h.sorted, fun x hx y hy => h.low x hx y hy.symm⟩
theorem mem_drop_add {x : KRow} {n m : Nat} (h : x ∈ a.drop (n + m)) : x ∈ a.drop n := by
  rw [← List.drop_drop] at h; exact List.mem_of_mem_drop h
theorem Mrg.addB (h : Mrg K a b out ia ib) (hb : Asc K b) (k : Nat) (hc : ∀ y ∈ (b.drop ib).take k, ∀ z ∈ a.drop ia, K y ≤ K z) : Mrg K a b (out ++ (b.drop ib).take k) ia (ib + k) := by
  refine ⟨?_, ?_, ?_⟩
  · refine (h.perm.append_right _).trans ?_
    rw [List.append_assoc, List.take_add]
  · refine List.pairwise_append.mpr ⟨h.sorted, (hb.drop ib).take k, fun x hx y hy => h.low x hx y (.inr (List.mem_of_mem_take hy))⟩
  · intro x hx y hy
    rcases List.mem_append.mp hx with hx | hx
    · exact h.low x hx y (hy.imp id mem_drop_add)
    · rcases hy with hy | hy
      · exact hc x hx y hy
      · rw [← List.drop_drop] at hy
        exact (hb.drop ib).cut k hx hy
theorem Mrg.addA (h : Mrg K a b out ia ib) (ha : Asc K a) (k : Nat) (hc : ∀ y ∈ (a.drop ia).take k, ∀ z ∈ b.drop ib, K y ≤ K z) : Mrg K a b (out ++ (a.drop ia).take k) (ia + k) ib := (h.swap.addB ha k hc).swap
theorem Mrg.all (h : Mrg K a b out ia ib) (ha : Asc K a) (hb : Asc K b) (hc : ∀ y ∈ b.drop ib, ∀ z ∈ a.drop ia, K y ≤ K z) : (out ++ b.drop ib ++ a.drop ia).Perm (a ++ b) ∧ Asc K (out ++ b.drop ib ++ a.drop ia) := by
  have h1 := h.addB hb (b.drop ib).length (by rw [List.take_length]; exact hc)
  rw [List.take_length] at h1
  have h2 := h1.addA ha (a.drop ia).length (by rw [List.take_length]; intro y _ z hz; rw [List.drop_of_length_le (by simp; omega)] at hz; cases hz)
  rw [List.take_length] at h2
  refine ⟨?_, h2.sorted⟩
  have := h2.perm
  rwa [List.take_of_length_le (by simp; omega), List.take_of_length_le (by simp; omega)] at this
theorem Mrg.allA (h : Mrg K a b out ia ib) (ha : Asc K a) (hb : Asc K b) (hc : ∀ y ∈ a.drop ia, ∀ z ∈ b.drop ib, K y ≤ K z) : (out ++ a.drop ia ++ b.drop ib).Perm (a ++ b) ∧ Asc K (out ++ a.drop ia ++ b.drop ib) := by
  obtain ⟨x, y⟩ := h.swap.all hb ha hc
  exact ⟨x.trans List.perm_append_comm, y⟩

/-- from behind: r is what has been merged, the rest lies ahead of it -/
structure Mrh (K : KRow → Int) (a b r : List KRow) (na nb : Nat) : Prop where
  perm : r.Perm (a.drop na ++ b.drop nb)
  sorted : Asc K r
  high : ∀ x ∈ r, ∀ y, y ∈ a.take na ∨ y ∈ b.take nb → K y ≤ K x
variable {r : List KRow} {na nb : Nat}
theorem Mrh.swap (h : Mrh K a b r na nb) : Mrh K b a r nb na := ⟨h.perm.trans List.perm_append_comm, h.sorted, fun x hx y hy => h.high x hx y hy.symm⟩
theorem drop_split (l : List KRow) {k n : Nat} (h : k ≤ n) : l.drop k = (l.take n).drop k ++ l.drop n := by
  have : (l.take n ++ l.drop n).drop k = _ := List.drop_append
  rw [List.take_append_drop] at this
  rw [this]
  by_cases hl : n ≤ l.length
  · rw [List.length_take, Nat.min_eq_left hl, show k - n = 0 by omega, List.drop_zero]
  · rw [List.drop_of_length_le (l := l) (i := n) (by omega)]; simp
theorem Mrh.addA (h : Mrh K a b r na nb) (ha : Asc K a) (k : Nat) (hk : k ≤ na) (hc : ∀ y ∈ (a.take na).drop k, ∀ z ∈ b.take nb, K z ≤ K y) : Mrh K a b ((a.take na).drop k ++ r) k nb := by
  refine ⟨?_, ?_, ?_⟩
  · rw [drop_split a hk, List.append_assoc]
    exact h.perm.append_left _
  · exact List.pairwise_append.mpr ⟨(ha.take na).drop k, h.sorted, fun x hx y hy => h.high y hy x (.inl (List.mem_of_mem_drop hx))⟩
  · intro x hx y hy
    have hta : ∀ {z}, z ∈ a.take k → z ∈ a.take na := fun hz => by
      rw [show a.take k = (a.take na).take k by rw [List.take_take, Nat.min_eq_left hk]] at hz
      exact List.mem_of_mem_take hz
    rcases List.mem_append.mp hx with hx | hx
    · rcases hy with hy | hy
      · have hy' : y ∈ (a.take na).take k := by rw [List.take_take, Nat.min_eq_left hk]; exact hy
        exact (ha.take na).cut k hy' hx
      · exact hc x hx y hy
    · exact h.high x hx y (hy.imp hta id)
theorem Mrh.addB (h : Mrh K a b r na nb) (hb : Asc K b) (k : Nat) (hk : k ≤ nb) (hc : ∀ y ∈ (b.take nb).drop k, ∀ z ∈ a.take na, K z ≤ K y) : Mrh K a b ((b.take nb).drop k ++ r) na k := (h.swap.addA hb k hk hc).swap
theorem Mrh.all (h : Mrh K a b r na nb) (ha : Asc K a) (hb : Asc K b) (hc : ∀ y ∈ a.take na, ∀ z ∈ b.take nb, K y ≤ K z) : (a.take na ++ b.take nb ++ r).Perm (a ++ b) ∧ Asc K (a.take na ++ b.take nb ++ r) := by
  have h1 := h.addB hb 0 (Nat.zero_le _) (by rw [List.drop_zero]; exact fun y hy z hz => hc z hz y hy)
  have h2 := h1.addA ha 0 (Nat.zero_le _) (by rw [List.take_zero]; intro _ _ z hz; cases hz)
  simp only [List.drop_zero] at h2
  rw [← List.append_assoc] at h2
  exact ⟨by simpa using h2.perm, h2.sorted⟩
theorem Mrh.allB (h : Mrh K a b r na nb) (ha : Asc K a) (hb : Asc K b) (hc : ∀ y ∈ b.take nb, ∀ z ∈ a.take na, K y ≤ K z) : (b.take nb ++ a.take na ++ r).Perm (a ++ b) ∧ Asc K (b.take nb ++ a.take na ++ r) := by
  obtain ⟨x, y⟩ := h.swap.all hb ha hc
  exact ⟨x.trans List.perm_append_comm, y⟩
end
end Mine

set_option autoImplicit false
set_option maxHeartbeats 4000000
set_option maxRecDepth 100000
namespace Mine
open PySem PyProof.Rows

section
variable {M : Model} {A : Around} {E : Value → Shared → Prop} {s : Shared} {κ : SortKind} {S : KRow → Prop} {K : KRow → Int}
def mergeLo' : Array KRow → Array KRow → StateT SortSt Sem (Array KRow) := sortPriv% PySem.Builtin.mergeLo
def mergeHi' : Array KRow → Array KRow → StateT SortSt Sem (Array KRow) := sortPriv% PySem.Builtin.mergeHi
theorem wpS_ite {α : Type} {σ : Type} {c : Prop} [Decidable c] {t e : StateT σ Sem α} {Q : α → σ → Prop} {st : σ} (h1 : c → PyProof.Rows.wpS M A E s t Q st) (h2 : ¬ c → PyProof.Rows.wpS M A E s e Q st) : PyProof.Rows.wpS M A E s (if c then t else e) Q st := by
  split
  · exact h1 ‹_›
  · exact h2 ‹_›
theorem wpS_opq {α σ : Type} {m : StateT σ Sem α} {Q : α → σ → Prop} {st : σ} (P : (α → σ → Prop) → Prop) (h0 : P Q) (h : ∀ Q', P Q' → PyProof.Rows.wpS M A E s m Q' st) : PyProof.Rows.wpS M A E s m Q st := h Q h0
def SameG (st st' : SortSt) : Prop := ∃ g, st' = SortSt.mk' (PyProof.Rows.kindOf st) (arrOf st) (pendingOf st) g (failedOf st)
theorem SameG.refl (st : SortSt) : SameG st st := ⟨gallopOf st, rfl⟩
theorem SameG.set {st st' : SortSt} (h : SameG st st') (g : Nat) : SameG st (SortSt.mk' (PyProof.Rows.kindOf st') (arrOf st') (pendingOf st') g (failedOf st')) := by
  obtain ⟨g', rfl⟩ := h; exact ⟨g, rfl⟩
theorem SameG.kind {st st' : SortSt} (h : SameG st st') : PyProof.Rows.kindOf st' = PyProof.Rows.kindOf st := by obtain ⟨g', rfl⟩ := h; rfl

/-! merge helpers -/
theorem beq_le {m n : Nat} (h : (m == n) = true) : n ≤ m := by simp at h; (first | lia | omega)
theorem mem_drop_iff {a : Array KRow} {n : Nat} {z : KRow} : z ∈ a.toList.drop n ↔ ∃ i, a[n + i]? = some z := by
  rw [List.mem_iff_getElem?]
  simp only [List.getElem?_drop, Array.getElem?_toList]
theorem mem_block_iff {a : Array KRow} {n k : Nat} {z : KRow} : z ∈ (a.toList.drop n).take k ↔ ∃ i, i < k ∧ a[n + i]? = some z := by
  rw [List.mem_iff_getElem?]
  constructor
  · rintro ⟨i, h⟩
    rw [List.getElem?_take] at h
    split at h
    · rename_i hi; exact ⟨i, hi, by simpa [List.getElem?_drop] using h⟩
    · cases h
  · rintro ⟨i, hi, h⟩
    exact ⟨i, by rw [List.getElem?_take, if_pos hi]; simpa [List.getElem?_drop] using h⟩
theorem kk_of {a : Array KRow} {i : Nat} {x : KRow} (h : a[i]? = some x) : kk K a i = K x := by unfold kk; rw [h]
theorem size_of {a : Array KRow} {i : Nat} {x : KRow} (h : a[i]? = some x) : i < a.size := by
  rw [Array.getElem?_eq_some_iff] at h; exact h.1
theorem asc_at {a : Array KRow} (h : Asc K a.toList) {i j : Nat} {x y : KRow} (hij : i ≤ j) (hx : a[i]? = some x) (hy : a[j]? = some y) : K x ≤ K y := by
  by_cases e : i = j
  · subst e; rw [hx] at hy; cases hy; exact Int.le_refl _
  · have hi := size_of hx
    have hj := size_of hy
    have := List.pairwise_iff_getElem.mp h i j (by simpa using hi) (by simpa using hj) (by (first | lia | omega))
    have e1 : a.toList[i]'(by simpa using hi) = x := by
      have := (Array.getElem?_eq_some_iff.mp hx).2; simpa using this
    have e2 : a.toList[j]'(by simpa using hj) = y := by
      have := (Array.getElem?_eq_some_iff.mp hy).2; simpa using this
    rw [e1, e2] at this; exact this
theorem asc_on {a : Array KRow} (h : Asc K a.toList) {lo hi : Nat} (hh : hi ≤ a.size) : SortedOn K a lo hi := fun i j _ hij hj => by
  have e1 : a[i]? = some a[i] := getElem?_pos a i (by (first | lia | omega))
  have e2 : a[j]? = some a[j] := getElem?_pos a j (by (first | lia | omega))
  rw [kk_of e1, kk_of e2]
  exact asc_at h hij e1 e2
theorem take1 {a : Array KRow} {i : Nat} {x : KRow} (h : a[i]? = some x) : (a.toList.drop i).take 1 = [x] := by
  have hi : i < a.toList.length := by have := size_of h; simpa using this
  have hx : a.toList[i] = x := by have := (Array.getElem?_eq_some_iff.mp h).2; simpa using this
  rw [List.drop_eq_getElem_cons hi, hx]; rfl
variable {a b out : Array KRow} {ia ib : Nat}
theorem pushB (h : Mrg K a.toList b.toList out.toList ia ib) (hb : Asc K b.toList) {y : KRow} (hy : b[ib]? = some y) (hc : ∀ z ∈ a.toList.drop ia, K y ≤ K z) : Mrg K a.toList b.toList (out.push y).toList ia (ib + 1) := by
  have := h.addB hb 1 (by rw [take1 hy]; intro w hw z hz; cases List.mem_singleton.mp hw; exact hc z hz)
  rw [take1 hy] at this
  simpa using this
theorem pushA (h : Mrg K a.toList b.toList out.toList ia ib) (ha : Asc K a.toList) {y : KRow} (hy : a[ia]? = some y) (hc : ∀ z ∈ b.toList.drop ib, K y ≤ K z) : Mrg K a.toList b.toList (out.push y).toList (ia + 1) ib := (pushB h.swap ha hy hc).swap
theorem extract_list (a : Array KRow) (i k : Nat) : (a.extract i (i + k)).toList = (a.toList.drop i).take k := by
  simp [List.extract_eq_take_drop]
theorem extract_all (a : Array KRow) (i : Nat) : (a.extract i a.size).toList = a.toList.drop i := by
  simp [List.extract_eq_take_drop]
  rw [List.take_of_length_le (by simp)]
theorem blkA (h : Mrg K a.toList b.toList out.toList ia ib) (ha : Asc K a.toList) (k : Nat) (hc : ∀ y ∈ (a.toList.drop ia).take k, ∀ z ∈ b.toList.drop ib, K y ≤ K z) : Mrg K a.toList b.toList (out ++ a.extract ia (ia + k)).toList (ia + k) ib := by
  rw [Array.toList_append, extract_list]; exact h.addA ha k hc
theorem blkB (h : Mrg K a.toList b.toList out.toList ia ib) (hb : Asc K b.toList) (k : Nat) (hc : ∀ y ∈ (b.toList.drop ib).take k, ∀ z ∈ a.toList.drop ia, K y ≤ K z) : Mrg K a.toList b.toList (out ++ b.extract ib (ib + k)).toList ia (ib + k) := by
  rw [Array.toList_append, extract_list]; exact h.addB hb k hc
def Rs (K : KRow → Int) (a b r : Array KRow) : Prop := r.toList.Perm (a.toList ++ b.toList) ∧ Asc K r.toList
theorem doneP (h : Mrg K a.toList b.toList out.toList ia ib) (ha : Asc K a.toList) (hb : Asc K b.toList) (he : b.size ≤ ib ∨ a.size ≤ ia) : Rs K a b (out ++ a.extract ia a.size ++ b.extract ib b.size) := by
  unfold Rs
  rw [Array.toList_append, Array.toList_append, extract_all, extract_all]
  refine h.allA ha hb fun y hy z hz => ?_
  obtain ⟨i, hi⟩ := mem_drop_iff.mp hy
  obtain ⟨j, hj⟩ := mem_drop_iff.mp hz
  have := size_of hi; have := size_of hj
  (first | lia | omega)
theorem lastP (h : Mrg K a.toList b.toList out.toList ia ib) (ha : Asc K a.toList) (hb : Asc K b.toList) (hl : ∀ x ∈ a.toList.drop (a.size - 1), ∀ y ∈ b.toList, K y ≤ K x) (he : ia + 1 = a.size) : Rs K a b (out ++ b.extract ib b.size ++ a.extract ia a.size) := by
  unfold Rs
  rw [Array.toList_append, Array.toList_append, extract_all, extract_all]
  exact h.all ha hb fun y hy z hz => hl z (by rw [show a.size - 1 = ia by (first | lia | omega)]; exact hz) y (List.mem_of_mem_drop hy)
/-- what a gallop has told of a block and of what lies behind it -/
theorem gal_lo {k : Nat} {T : Int} (hlo : ∀ i, i < k → kk K a (ia + i) < T) : ∀ y ∈ (a.toList.drop ia).take k, K y < T := fun y hy => by
  obtain ⟨i, hi, h⟩ := mem_block_iff.mp hy
  have := hlo i hi; rw [kk_of h] at this; exact this
theorem gal_hi {k : Nat} {T : Int} (hhi : ∀ i, k ≤ i → i < a.size - ia → ¬ kk K a (ia + i) < T) : ∀ z ∈ a.toList.drop (ia + k), T ≤ K z := fun z hz => by
  obtain ⟨i, h⟩ := mem_drop_iff.mp hz
  rw [Nat.add_assoc] at h
  have := hhi (k + i) (by (first | lia | omega)) (by have := size_of h; (first | lia | omega))
  rw [kk_of h] at this; (first | lia | omega)

theorem mergeLo_ok {a b : Array KRow} {st : SortSt} {Q : Array KRow → SortSt → Prop} (L : LtOk M A E s κ S K) (hSa : AllS S a) (hSb : AllS S b) (hst : PyProof.Rows.kindOf st = κ) (ha1 : 1 ≤ a.size) (hb1 : 1 ≤ b.size)
    (ha : Asc K a.toList) (hb : Asc K b.toList) (h0 : ∀ x ∈ b.toList.take 1, ∀ z ∈ a.toList, K x ≤ K z) (hl : ∀ x ∈ a.toList.drop (a.size - 1), ∀ y ∈ b.toList, K y ≤ K x)
    (h : ∀ out st', Rs K a b out → SameG st st' → Q out st') : PyProof.Rows.wpS M A E s (mergeLo' a b) Q st := by
  unfold mergeLo'
  refine wpS_bind (wpS_lift (wpAny_rule ⟨rfl, ?_⟩))
  refine wpS_bind (elem_ok (K := K) (by (first | lia | omega)) fun x hx hkx => ?_)
  (try dsimp -zeta -zetaHave only)
  have m0 : Mrg K a.toList b.toList (#[x] : Array KRow).toList 0 1 := by
    have h00 : Mrg K a.toList b.toList (#[] : Array KRow).toList 0 0 := ⟨by simp, .nil, fun z hz => by simp at hz⟩
    have := pushB h00 hb hx (fun z hz => h0 x (by have := take1 hx; rw [List.drop_zero] at this; rw [this]; simp) z (by simpa using hz))
    simpa using this
  refine wpS_ite (fun e0 => ?_) fun e0 => ?_
  · skip
    have e0 : 1 = b.size := by simpa using e0
    exact wpS_pure (h _ _ (doneP m0 ha hb (.inl (by (first | lia | omega)))) (.refl st))
  have e0 : ¬ 1 = b.size := by simpa using e0
  refine wpS_ite (fun e1 => ?_) fun e1 => ?_
  · skip
    exact wpS_pure (h _ _ (lastP m0 ha hb hl (by simpa using e1)) (.refl st))
  have e1 : ¬ 0 + 1 = a.size := by simpa using e1
  refine wpS_bind (wpS_get ?_)
  refine wpS_bind (wpS_mono (wpS_forRange
    (I := fun x c st' => SameG st st' ∧ c.1 = none ∧ (Mrg K a.toList b.toList c.2.1.toList c.2.2.1 c.2.2.2.1 ∧ c.2.2.1 + 1 < a.size ∧ c.2.2.2.1 < b.size) ∧ x + 1 ≤ c.2.2.1 + c.2.2.2.1)
    (Q := fun c st' => SameG st st' ∧ ∃ r, c.1 = some r ∧ Rs K a b r) ?step ?fin ⟨.refl st, rfl, ⟨m0, by dsimp only; (first | lia | omega), by dsimp only; (first | lia | omega)⟩, by dsimp only; (first | lia | omega)⟩) ?post)
  case fin =>
    rintro c st' ⟨_, _, ⟨_, h2, h3⟩, h4⟩
    (first | lia | omega)
  case post =>
    rintro ⟨c1, c2⟩ st' ⟨sg, r, hr, hR⟩
    cases hr
    exact wpS_pure (h r st' hR sg)
  case step =>
    rintro x0 ⟨c1, out, ia, ib, mg⟩ st' _ hx0 ⟨sg, hc1, ⟨m1, hia, hib⟩, hp⟩
    dsimp -zeta -zetaHave only at hc1 m1 hia hib hp ⊢
    subst hc1
    refine wpS_bind (wpS_mono (wpS_forRange
      (I := fun x c st' => SameG st st' ∧ c.1 = none ∧ (Mrg K a.toList b.toList c.2.1.toList c.2.2.1 c.2.2.2.1 ∧ c.2.2.1 + 1 < a.size ∧ c.2.2.2.1 < b.size) ∧ ia + ib + x ≤ c.2.2.1 + c.2.2.2.1)
      (Q := fun c st' => SameG st st' ∧ ((∃ r, c.1 = some r ∧ Rs K a b r) ∨ (c.1 = none ∧ (Mrg K a.toList b.toList c.2.1.toList c.2.2.1 c.2.2.2.1 ∧ c.2.2.1 + 1 < a.size ∧ c.2.2.2.1 < b.size) ∧ ia + ib + 1 ≤ c.2.2.1 + c.2.2.2.1))) ?istep ?ifin ⟨sg, rfl, ⟨m1, hia, hib⟩, Nat.le_refl _⟩) ?ipost)
    case ifin =>
      rintro c st' ⟨_, _, ⟨_, h2, h3⟩, h4⟩
      (first | lia | omega)
    case istep =>
      rintro x1 ⟨c1, out, ia', ib', ac, bc⟩ st' _ hx1 ⟨sg, hc1, ⟨m1, hia, hib⟩, hp1⟩
      dsimp -zeta -zetaHave only at hc1 m1 hia hib hp1 ⊢
      subst hc1
      refine wpS_bind (elem_ok (K := K) hib fun y hy hky => ?_)
      refine wpS_bind (elem_ok (K := K) (by (first | lia | omega)) fun z hz hkz => ?_)
      refine wpS_bind (L _ _ _ _ (hSb _ _ hy) (hSa _ _ hz) (sg.kind.trans hst) ?_)
      (try dsimp -zeta -zetaHave only)
      by_cases hw : K y < K z
      · rw [decide_eq_true hw, if_pos rfl]
        refine wpS_bind (elem_ok (K := K) hib fun y2 hy2 _ => ?_)
        rw [hy] at hy2; cases hy2
        have m2 := pushB m1 hb hy (fun q hq => by
          obtain ⟨j, hj⟩ := mem_drop_iff.mp hq
          have := asc_at ha (Nat.le_add_right _ j) hz hj
          (first | lia | omega))
        refine wpS_ite (fun e2 => ?_) fun e2 => ?_
        · exact wpS_pure ⟨sg, .inl ⟨_, rfl, doneP m2 ha hb (.inl (beq_le e2))⟩⟩
        have e2 : ¬ ib' + 1 = b.size := by simpa using e2
        refine wpS_ite (fun _ => ?_) fun _ => ?_
        · exact wpS_pure ⟨sg, .inr ⟨rfl, ⟨m2, by dsimp only; (first | lia | omega), by dsimp only; (first | lia | omega)⟩, by dsimp only; (first | lia | omega)⟩⟩
        · exact wpS_pure ⟨sg, rfl, ⟨m2, by dsimp only; (first | lia | omega), by dsimp only; (first | lia | omega)⟩, by dsimp only; (first | lia | omega)⟩
      · rw [decide_eq_false hw, if_neg (by decide)]
        refine wpS_bind (elem_ok (K := K) (by (first | lia | omega)) fun z2 hz2 _ => ?_)
        rw [hz] at hz2; cases hz2
        have m2 := pushA m1 ha hz (fun q hq => by
          obtain ⟨j, hj⟩ := mem_drop_iff.mp hq
          have := asc_at hb (Nat.le_add_right _ j) hy hj
          (first | lia | omega))
        refine wpS_ite (fun e2 => ?_) fun e2 => ?_
        · exact wpS_pure ⟨sg, .inl ⟨_, rfl, lastP m2 ha hb hl (by simpa using e2)⟩⟩
        have e2 : ¬ ia' + 1 + 1 = a.size := by simpa using e2
        refine wpS_ite (fun _ => ?_) fun _ => ?_
        · exact wpS_pure ⟨sg, .inr ⟨rfl, ⟨m2, by dsimp only; (first | lia | omega), by dsimp only; (first | lia | omega)⟩, by dsimp only; (first | lia | omega)⟩⟩
        · exact wpS_pure ⟨sg, rfl, ⟨m2, by dsimp only; (first | lia | omega), by dsimp only; (first | lia | omega)⟩, by dsimp only; (first | lia | omega)⟩
    case ipost =>
      rintro ⟨c1, out, ia2, ib2, ac, bc⟩ st' ⟨sg, hq⟩
      dsimp -zeta -zetaHave only at hq ⊢
      rcases hq with ⟨r, hr, hR⟩ | ⟨hc1, ⟨m1, hia, hib⟩, hp2⟩
      · cases hr
        exact wpS_pure ⟨sg, r, rfl, hR⟩
      · subst hc1
        (try dsimp -zeta -zetaHave only)
        refine wpS_bind (wpS_lift (wpAny_rule ⟨rfl, ?_⟩))
        refine wpS_bind (wpS_mono (wpS_forRange
          (I := fun x c st' => SameG st st' ∧ c.1 = none ∧ (Mrg K a.toList b.toList c.2.1.toList c.2.2.1 c.2.2.2.1 ∧ c.2.2.1 + 1 < a.size ∧ c.2.2.2.1 < b.size) ∧ ia2 + ib2 + x ≤ c.2.2.1 + c.2.2.2.1)
          (Q := fun c st' => SameG st st' ∧ ((∃ r, c.1 = some r ∧ Rs K a b r) ∨ (c.1 = none ∧ (Mrg K a.toList b.toList c.2.1.toList c.2.2.1 c.2.2.2.1 ∧ c.2.2.1 + 1 < a.size ∧ c.2.2.2.1 < b.size) ∧ ia2 + ib2 ≤ c.2.2.1 + c.2.2.2.1))) ?gstep ?gfin ⟨sg, rfl, ⟨m1, hia, hib⟩, Nat.le_refl _⟩) ?gpost)
        case gfin =>
          rintro c st' ⟨_, _, ⟨_, h2, h3⟩, h4⟩
          (first | lia | omega)
        case gpost =>
          rintro ⟨c1, out3, ia3, ib3, mg3, ac3, bc3⟩ st' ⟨sg, hq⟩
          dsimp -zeta -zetaHave only at hq ⊢
          rcases hq with ⟨r, hr, hR⟩ | ⟨hc1, ⟨m1, hia, hib⟩, hp3⟩
          · cases hr
            exact wpS_pure ⟨sg, r, rfl, hR⟩
          · subst hc1
            (try dsimp -zeta -zetaHave only)
            refine wpS_bind (wpS_modify (wpS_pure ⟨sg.set _, rfl, ⟨m1, hia, hib⟩, by dsimp only; (first | lia | omega)⟩))
        case gstep =>
          rintro x2 ⟨c1, out, ia, ib, mg, ac, bc⟩ st' _ hx2 ⟨sg, hc1, ⟨m1, hia, hib⟩, hp3⟩
          dsimp -zeta -zetaHave only at hc1 m1 hia hib hp3 ⊢
          subst hc1
          extract_lets s0 o1 s1 i1 s2 j1 s3 g1 s4 ac1 bc1 j2 jp g2
          refine wpS_opq (fun Q' => (∀ r c st', SameG st st' → Rs K a b r → Q' (.done (some r, c)) st') ∧ (∀ out ia ib x st', SameG st st' → Mrg K a.toList b.toList out.toList ia ib → ia + 1 < a.size → ib < b.size → ia2 + ib2 + (x2 + 1) ≤ ia + ib → Q' (.done (none, out, ia, ib, x)) st' ∧ Q' (.yield (none, out, ia, ib, x)) st')) ⟨fun r c st' sg h => ⟨sg, .inl ⟨r, rfl, h⟩⟩, fun out ia ib x st' sg m h1 h2 h3 => ⟨⟨sg, .inr ⟨rfl, ⟨m, h1, h2⟩, Nat.le_trans (Nat.le_add_right _ _) h3⟩⟩, ⟨sg, rfl, ⟨m, h1, h2⟩, h3⟩⟩⟩ ?_
          rintro QQ ⟨qd, qn⟩
          have hjp : ∀ g, PyProof.Rows.wpS M A E s (jp () g) QQ st' := by
            intro g
            dsimp -zeta -zetaHave only [jp, o1, i1, j1, j2, bc1, s0, s1, s2, s3, s4]
            refine wpS_bind (wpS_modify ?_)
            have sg : SameG st _ := sg.set g
            refine wpS_bind (elem_ok (K := K) hib fun key hkey _ => ?_)
            refine wpS_bind (gallop_ok L (hSb _ _ hkey) hSa (sg.kind.trans hst) (by (first | lia | omega)) (by (first | lia | omega)) (asc_on ha (by (first | lia | omega))) fun k hk hlo hhi => ?_)
            simp only [Bool.false_eq_true, if_false] at hlo hhi
            have lo0 := gal_lo hlo
            have hi0 := gal_hi hhi
            have m2 := blkA m1 ha k (fun w hw z hz => by
              have := lo0 w hw
              obtain ⟨j, hj⟩ := mem_drop_iff.mp hz
              have := asc_at hb (Nat.le_add_right _ j) hkey hj
              (first | lia | omega))
            (try dsimp -zeta -zetaHave only)
            extract_lets ac2 jp2 o2 i2
            have hjp2 : ∀ (o : Array KRow) (i : Nat) (st₂ : SortSt), SameG st st₂ → Mrg K a.toList b.toList o.toList i ib → (∀ z ∈ a.toList.drop i, K key + 1 ≤ K z) → i + 1 < a.size → ia ≤ i → PyProof.Rows.wpS M A E s (jp2 () o i) QQ st₂ := by
              intro o i st₂ sg m2 hB hi hge
              dsimp -zeta -zetaHave only [jp2]
              refine wpS_bind (elem_ok (K := K) hib fun y hy _ => ?_)
              rw [hkey] at hy; cases hy
              have m3 := pushB m2 hb hkey (fun z hz => by have := hB z hz; (first | lia | omega))
              extract_lets o3
              refine wpS_ite (fun e3 => ?_) fun e3 => ?_
              · exact wpS_pure (qd _ _ _ sg (doneP m3 ha hb (.inl (beq_le e3))))
              have e3 : ¬ ib + 1 = b.size := by simpa using e3
              refine wpS_bind (elem_ok (K := K) (by (first | lia | omega)) fun xa hxa _ => ?_)
              refine wpS_bind (gallop_ok L (hSa _ _ hxa) hSb (sg.kind.trans hst) (by (first | lia | omega)) (by (first | lia | omega)) (asc_on hb (by (first | lia | omega))) fun k1 hk1 hlo1 hhi1 => ?_)
              simp only [if_true, Int.add_zero] at hlo1 hhi1
              have lo1 := gal_lo hlo1
              have hi1 := gal_hi hhi1
              have m4 := blkB m3 hb k1 (fun w hw z hz => by
                have := lo1 w hw
                obtain ⟨j, hj⟩ := mem_drop_iff.mp hz
                have := asc_at ha (Nat.le_add_right _ j) hxa hj
                (first | lia | omega))
              (try dsimp -zeta -zetaHave only)
              extract_lets bc2 jp3 o4 j4
              have hjp3 : ∀ (o : Array KRow) (j : Nat), Mrg K a.toList b.toList o.toList i j → (∀ z ∈ b.toList.drop j, K xa ≤ K z) → j < b.size → ib + 1 ≤ j → PyProof.Rows.wpS M A E s (jp3 () o j) QQ st₂ := by
                intro o j m4 hA hj hjb
                dsimp -zeta -zetaHave only [jp3]
                refine wpS_bind (elem_ok (K := K) (by (first | lia | omega)) fun xa2 hxa2 _ => ?_)
                rw [hxa] at hxa2; cases hxa2
                have m5 := pushA m4 ha hxa hA
                dsimp only
                refine wpS_ite (fun e5 => ?_) fun e5 => ?_
                · exact wpS_pure (qd _ _ _ sg (lastP m5 ha hb hl (eq_of_beq e5)))
                have e5 : ¬ i + 1 + 1 = a.size := by simpa using e5
                have q := fun x => qn _ _ _ x _ sg m5 (by (first | lia | omega)) hj (by (first | lia | omega))
                exact wpS_ite (fun _ => wpS_pure (q _).1) fun _ => wpS_pure (q _).2
              refine wpS_ite (fun hk10 => ?_) fun hk10 => ?_
              · refine wpS_ite (fun e4 => ?_) fun e4 => ?_
                · exact wpS_pure (qd _ _ _ sg (doneP m4 ha hb (.inl (beq_le e4))))
                have e4 : ¬ ib + 1 + k1 = b.size := fun h => e4 (beq_iff_eq.mpr h)
                exact hjp3 _ _ m4 hi1 (by (first | lia | omega)) (by (first | lia | omega))
              · have hk1z : k1 = 0 := by (first | lia | omega)
                subst hk1z
                exact hjp3 _ _ m3 hi1 (by (first | lia | omega)) (Nat.le_refl _)
            refine wpS_ite (fun hk0 => ?_) fun hk0 => ?_
            · refine wpS_ite (fun e1 => ?_) fun e1 => ?_
              · exact wpS_pure (qd _ _ _ sg (lastP m2 ha hb hl (eq_of_beq e1)))
              have e1 : ¬ ia + k + 1 = a.size := fun h => e1 (beq_iff_eq.mpr h)
              refine wpS_ite (fun e2 => ?_) fun e2 => ?_
              · exact wpS_pure (qd _ _ _ sg (doneP m2 ha hb (.inr (beq_le e2))))
              have e2 : ¬ ia + k = a.size := fun h => e2 (beq_iff_eq.mpr h)
              exact hjp2 _ _ _ sg m2 hi0 (by (first | lia | omega)) (by (first | lia | omega))
            · have hkz : k = 0 := by (first | lia | omega)
              subst hkz
              exact hjp2 _ _ _ sg m1 hi0 hia (Nat.le_refl _)
          exact wpS_ite (fun _ => hjp _) fun _ => hjp _
end
end Mine

set_option autoImplicit false
set_option maxHeartbeats 4000000
set_option maxRecDepth 100000
namespace Mine
open PySem PyProof.Rows

section
variable {M : Model} {A : Around} {E : Value → Shared → Prop} {s : Shared} {κ : SortKind} {S : KRow → Prop} {K : KRow → Int}
variable {a b out : Array KRow} {na nb : Nat}
theorem mem_take_iff {a : Array KRow} {n : Nat} {z : KRow} : z ∈ a.toList.take n ↔ ∃ i, i < n ∧ a[i]? = some z := by
  have := mem_block_iff (a := a) (n := 0) (k := n) (z := z)
  simpa using this
theorem mem_td_iff {a : Array KRow} {n k : Nat} {z : KRow} : z ∈ (a.toList.take n).drop k ↔ ∃ i, k ≤ i ∧ i < n ∧ a[i]? = some z := by
  rw [List.mem_iff_getElem?]
  constructor
  · rintro ⟨i, h⟩
    rw [List.getElem?_drop, List.getElem?_take] at h
    split at h
    · rename_i hi; exact ⟨k + i, by (first | lia | omega), hi, by simpa using h⟩
    · cases h
  · rintro ⟨i, h1, h2, h⟩
    exact ⟨i - k, by rw [List.getElem?_drop, List.getElem?_take, show k + (i - k) = i by (first | lia | omega), if_pos h2]; simpa using h⟩
theorem td1 {a : Array KRow} {n : Nat} {x : KRow} (hn : 0 < n) (h : a[n - 1]? = some x) : (a.toList.take n).drop (n - 1) = [x] := by
  have hi := size_of h
  have hl : n - 1 < (a.toList.take n).length := by simp; (first | lia | omega)
  have hx : (a.toList.take n)[n - 1] = x := by
    have := (Array.getElem?_eq_some_iff.mp h).2; simpa using this
  rw [List.drop_eq_getElem_cons hl, hx, List.drop_of_length_le (by simp; (first | lia | omega))]
theorem extract_td (a : Array KRow) (i n : Nat) : (a.extract i n).toList = (a.toList.take n).drop i := by
  simp [List.extract_eq_take_drop, List.drop_take]
theorem rpushA (h : Mrh K a.toList b.toList out.reverse.toList na nb) (ha : Asc K a.toList) (hn : 0 < na) {y : KRow} (hy : a[na - 1]? = some y) (hc : ∀ z ∈ b.toList.take nb, K z ≤ K y) : Mrh K a.toList b.toList (out.push y).reverse.toList (na - 1) nb := by
  have := h.addA ha (na - 1) (by (first | lia | omega)) (by rw [td1 hn hy]; intro w hw z hz; cases List.mem_singleton.mp hw; exact hc z hz)
  rw [td1 hn hy] at this
  simpa using this
theorem rpushB (h : Mrh K a.toList b.toList out.reverse.toList na nb) (hb : Asc K b.toList) (hn : 0 < nb) {y : KRow} (hy : b[nb - 1]? = some y) (hc : ∀ z ∈ a.toList.take na, K z ≤ K y) : Mrh K a.toList b.toList (out.push y).reverse.toList na (nb - 1) := (rpushA h.swap hb hn hy hc).swap
theorem rblkA (h : Mrh K a.toList b.toList out.reverse.toList na nb) (ha : Asc K a.toList) (k : Nat) (hk : k ≤ na) (hc : ∀ y ∈ (a.toList.take na).drop k, ∀ z ∈ b.toList.take nb, K z ≤ K y) : Mrh K a.toList b.toList (out ++ (a.extract k na).reverse).reverse.toList k nb := by
  have e : (out ++ (a.extract k na).reverse).reverse.toList = (a.toList.take na).drop k ++ out.reverse.toList := by
    rw [← extract_td]; simp
  rw [e]
  exact h.addA ha k hk hc
theorem rblkB (h : Mrh K a.toList b.toList out.reverse.toList na nb) (hb : Asc K b.toList) (k : Nat) (hk : k ≤ nb) (hc : ∀ y ∈ (b.toList.take nb).drop k, ∀ z ∈ a.toList.take na, K z ≤ K y) : Mrh K a.toList b.toList (out ++ (b.extract k nb).reverse).reverse.toList na k := (rblkA h.swap hb k hk hc).swap
theorem extract0 (a : Array KRow) (n : Nat) : (a.extract 0 n).toList = a.toList.take n := by rw [extract_td, List.drop_zero]
theorem rdone (h : Mrh K a.toList b.toList out.reverse.toList na nb) (ha : Asc K a.toList) (hb : Asc K b.toList) (he : na = 0 ∨ nb = 0) : Rs K a b (a.extract 0 na ++ b.extract 0 nb ++ out.reverse) := by
  unfold Rs
  rw [Array.toList_append, Array.toList_append, extract0, extract0]
  refine h.all ha hb fun y hy z hz => ?_
  rcases he with rfl | rfl
  · simp at hy
  · simp at hz
theorem rfirst (h : Mrh K a.toList b.toList out.reverse.toList na nb) (ha : Asc K a.toList) (hb : Asc K b.toList) (h0 : ∀ x ∈ b.toList.take 1, ∀ z ∈ a.toList, K x ≤ K z) (he : nb = 1) : Rs K a b (b.extract 0 nb ++ a.extract 0 na ++ out.reverse) := by
  unfold Rs
  subst he
  rw [Array.toList_append, Array.toList_append, extract0, extract0]
  exact h.allB ha hb fun y hy z hz => h0 y hy z (List.mem_of_mem_take hz)
theorem beq_eq {m n : Nat} (h : (m == n) = true) : m = n := by simpa using h

theorem mergeHi_ok {a b : Array KRow} {st : SortSt} {Q : Array KRow → SortSt → Prop} (L : LtOk M A E s κ S K) (hSa : AllS S a) (hSb : AllS S b) (hst : PyProof.Rows.kindOf st = κ) (ha1 : 1 ≤ a.size) (hb1 : 1 ≤ b.size)
    (ha : Asc K a.toList) (hb : Asc K b.toList) (h0 : ∀ x ∈ b.toList.take 1, ∀ z ∈ a.toList, K x ≤ K z) (hl : ∀ x ∈ a.toList.drop (a.size - 1), ∀ y ∈ b.toList, K y ≤ K x)
    (h : ∀ out st', Rs K a b out → SameG st st' → Q out st') : PyProof.Rows.wpS M A E s (mergeHi' a b) Q st := by
  unfold mergeHi'
  refine wpS_bind (wpS_lift (wpAny_rule ⟨rfl, ?_⟩))
  refine wpS_bind (elem_ok (K := K) (by (first | lia | omega)) fun x hx hkx => ?_)
  (try dsimp -zeta -zetaHave only)
  have m0 : Mrh K a.toList b.toList (#[x] : Array KRow).reverse.toList (a.size - 1) b.size := by
    have h00 : Mrh K a.toList b.toList (#[] : Array KRow).reverse.toList a.size b.size := ⟨by simp, by simp; exact .nil, fun z hz => by simp at hz⟩
    have := rpushA h00 ha (by (first | lia | omega)) hx (fun z hz => hl x (mem_drop_iff.mpr ⟨0, by simpa using hx⟩) z (List.mem_of_mem_take hz))
    simpa using this
  by_cases e0 : (a.size - 1 == 0) = true
  · rw [if_pos e0]
    exact wpS_pure (h _ _ (rdone m0 ha hb (.inl (beq_eq e0))) (.refl st))
  rw [if_neg e0]
  have e0 : ¬ a.size - 1 = 0 := by simpa using e0
  by_cases e1 : (b.size == 1) = true
  · rw [if_pos e1]
    exact wpS_pure (h _ _ (rfirst m0 ha hb h0 (beq_eq e1)) (.refl st))
  rw [if_neg e1]
  have e1 : ¬ b.size = 1 := by simpa using e1
  refine wpS_bind (wpS_get ?_)
  refine wpS_bind (wpS_mono (wpS_forRange
    (I := fun x c st' => SameG st st' ∧ c.1 = none ∧ (Mrh K a.toList b.toList c.2.2.2.1.reverse.toList c.2.1 c.2.2.1 ∧ 0 < c.2.1 ∧ 1 < c.2.2.1 ∧ c.2.1 ≤ a.size ∧ c.2.2.1 ≤ b.size) ∧ x + 1 + c.2.1 + c.2.2.1 ≤ a.size + b.size)
    (Q := fun c st' => SameG st st' ∧ ∃ r, c.1 = some r ∧ Rs K a b r) ?step ?fin ⟨.refl st, rfl, ⟨m0, by dsimp only; (first | lia | omega), by dsimp only; (first | lia | omega), by dsimp only; (first | lia | omega), by dsimp only; (first | lia | omega)⟩, by dsimp only; (first | lia | omega)⟩) ?post)
  case fin =>
    rintro c st' ⟨_, _, ⟨_, h2, h3, _⟩, h4⟩
    (first | lia | omega)
  case post =>
    rintro ⟨c1, c2⟩ st' ⟨sg, r, hr, hR⟩
    cases hr
    exact wpS_pure (h r st' hR sg)
  case step =>
    rintro x0 ⟨c1, na, nb, out, mg⟩ st' _ hx0 ⟨sg, hc1, ⟨m1, hna, hnb, hna', hnb'⟩, hp⟩
    dsimp -zeta -zetaHave only at hc1 m1 hna hnb hna' hnb' hp ⊢
    subst hc1
    refine wpS_bind (wpS_mono (wpS_forRange
      (I := fun x c st' => SameG st st' ∧ c.1 = none ∧ (Mrh K a.toList b.toList c.2.2.2.1.reverse.toList c.2.1 c.2.2.1 ∧ 0 < c.2.1 ∧ 1 < c.2.2.1 ∧ c.2.1 ≤ a.size ∧ c.2.2.1 ≤ b.size) ∧ c.2.1 + c.2.2.1 + x ≤ na + nb)
      (Q := fun c st' => SameG st st' ∧ ((∃ r, c.1 = some r ∧ Rs K a b r) ∨ (c.1 = none ∧ (Mrh K a.toList b.toList c.2.2.2.1.reverse.toList c.2.1 c.2.2.1 ∧ 0 < c.2.1 ∧ 1 < c.2.2.1 ∧ c.2.1 ≤ a.size ∧ c.2.2.1 ≤ b.size) ∧ c.2.1 + c.2.2.1 + 1 ≤ na + nb))) ?istep ?ifin ⟨sg, rfl, ⟨m1, hna, hnb, hna', hnb'⟩, Nat.le_refl _⟩) ?ipost)
    case ifin =>
      rintro c st' ⟨_, _, ⟨_, h2, h3, _⟩, h4⟩
      (first | lia | omega)
    case istep =>
      rintro x1 ⟨c1, na, nb, out, ac, bc⟩ st' _ hx1 ⟨sg, hc1, ⟨m1, hna, hnb, hna', hnb'⟩, hp1⟩
      dsimp -zeta -zetaHave only at hc1 m1 hna hnb hna' hnb' hp1 ⊢
      subst hc1
      refine wpS_bind (elem_ok (K := K) (by (first | lia | omega)) fun y hy hky => ?_)
      refine wpS_bind (elem_ok (K := K) (by (first | lia | omega)) fun z hz hkz => ?_)
      refine wpS_bind (L _ _ _ _ (hSb _ _ hy) (hSa _ _ hz) (sg.kind.trans hst) ?_)
      (try dsimp -zeta -zetaHave only)
      by_cases hw : K y < K z
      · rw [decide_eq_true hw, if_pos rfl]
        refine wpS_bind (elem_ok (K := K) (by (first | lia | omega)) fun z2 hz2 _ => ?_)
        rw [hz] at hz2; cases hz2
        have m2 := rpushA m1 ha hna hz (fun q hq => by
          obtain ⟨j, j1, j3⟩ := mem_take_iff.mp hq
          have := asc_at hb (show j ≤ nb - 1 by (first | lia | omega)) j3 hy
          (first | lia | omega))
        by_cases e2 : (na - 1 == 0) = true
        · rw [if_pos e2]; exact wpS_pure ⟨sg, .inl ⟨_, rfl, rdone m2 ha hb (.inl (beq_eq e2))⟩⟩
        rw [if_neg e2]
        have e2 : ¬ na - 1 = 0 := by simpa using e2
        split
        · exact wpS_pure ⟨sg, .inr ⟨rfl, ⟨m2, by dsimp only; (first | lia | omega), by dsimp only; (first | lia | omega), by dsimp only; (first | lia | omega), by dsimp only; (first | lia | omega)⟩, by dsimp only; (first | lia | omega)⟩⟩
        · exact wpS_pure ⟨sg, rfl, ⟨m2, by dsimp only; (first | lia | omega), by dsimp only; (first | lia | omega), by dsimp only; (first | lia | omega), by dsimp only; (first | lia | omega)⟩, by dsimp only; (first | lia | omega)⟩
      · rw [decide_eq_false hw, if_neg (by decide)]
        refine wpS_bind (elem_ok (K := K) (by (first | lia | omega)) fun y2 hy2 _ => ?_)
        rw [hy] at hy2; cases hy2
        have m2 := rpushB m1 hb (by (first | lia | omega)) hy (fun q hq => by
          obtain ⟨j, j1, j3⟩ := mem_take_iff.mp hq
          have := asc_at ha (show j ≤ na - 1 by (first | lia | omega)) j3 hz
          (first | lia | omega))
        by_cases e2 : (nb - 1 == 1) = true
        · rw [if_pos e2]; exact wpS_pure ⟨sg, .inl ⟨_, rfl, rfirst m2 ha hb h0 (beq_eq e2)⟩⟩
        rw [if_neg e2]
        have e2 : ¬ nb - 1 = 1 := by simpa using e2
        split
        · exact wpS_pure ⟨sg, .inr ⟨rfl, ⟨m2, by dsimp only; (first | lia | omega), by dsimp only; (first | lia | omega), by dsimp only; (first | lia | omega), by dsimp only; (first | lia | omega)⟩, by dsimp only; (first | lia | omega)⟩⟩
        · exact wpS_pure ⟨sg, rfl, ⟨m2, by dsimp only; (first | lia | omega), by dsimp only; (first | lia | omega), by dsimp only; (first | lia | omega), by dsimp only; (first | lia | omega)⟩, by dsimp only; (first | lia | omega)⟩
    case ipost =>
      rintro ⟨c1, na2, nb2, out, ac, bc⟩ st' ⟨sg, hq⟩
      dsimp -zeta -zetaHave only at hq ⊢
      rcases hq with ⟨r, hr, hR⟩ | ⟨hc1, ⟨m1, hna, hnb, hna', hnb'⟩, hp2⟩
      · cases hr
        exact wpS_pure ⟨sg, r, rfl, hR⟩
      · subst hc1
        (try dsimp -zeta -zetaHave only)
        refine wpS_bind (wpS_lift (wpAny_rule ⟨rfl, ?_⟩))
        refine wpS_bind (wpS_mono (wpS_forRange
          (I := fun x c st' => SameG st st' ∧ c.1 = none ∧ (Mrh K a.toList b.toList c.2.2.2.1.reverse.toList c.2.1 c.2.2.1 ∧ 0 < c.2.1 ∧ 1 < c.2.2.1 ∧ c.2.1 ≤ a.size ∧ c.2.2.1 ≤ b.size) ∧ c.2.1 + c.2.2.1 + x ≤ na2 + nb2)
          (Q := fun c st' => SameG st st' ∧ ((∃ r, c.1 = some r ∧ Rs K a b r) ∨ (c.1 = none ∧ (Mrh K a.toList b.toList c.2.2.2.1.reverse.toList c.2.1 c.2.2.1 ∧ 0 < c.2.1 ∧ 1 < c.2.2.1 ∧ c.2.1 ≤ a.size ∧ c.2.2.1 ≤ b.size) ∧ c.2.1 + c.2.2.1 ≤ na2 + nb2))) ?gstep ?gfin ⟨sg, rfl, ⟨m1, hna, hnb, hna', hnb'⟩, Nat.le_refl _⟩) ?gpost)
        case gfin =>
          rintro c st' ⟨_, _, ⟨_, h2, h3, _⟩, h4⟩
          (first | lia | omega)
        case gpost =>
          rintro ⟨c1, na3, nb3, out3, mg3, ac3, bc3⟩ st' ⟨sg, hq⟩
          dsimp -zeta -zetaHave only at hq ⊢
          rcases hq with ⟨r, hr, hR⟩ | ⟨hc1, ⟨m1, hna, hnb, hna', hnb'⟩, hp3⟩
          · cases hr
            exact wpS_pure ⟨sg, r, rfl, hR⟩
          · subst hc1
            (try dsimp -zeta -zetaHave only)
            refine wpS_bind (wpS_modify (wpS_pure ⟨sg.set _, rfl, ⟨m1, hna, hnb, hna', hnb'⟩, by dsimp only; (first | lia | omega)⟩))
        case gstep =>
          rintro x2 ⟨c1, na, nb, out, mg, ac, bc⟩ st' _ hx2 ⟨sg, hc1, ⟨m1, hna, hnb, hna', hnb'⟩, hp3⟩
          dsimp -zeta -zetaHave only at hc1 m1 hna hnb hna' hnb' hp3 ⊢
          subst hc1
          extract_lets s0 n1 s1 b1 s2 o1 s3 g1 s4 ac1 bc1 b2 jp g2
          refine wpS_opq (fun Q' => (∀ r c st', SameG st st' → Rs K a b r → Q' (.done (some r, c)) st') ∧ (∀ na nb out x st', SameG st st' → Mrh K a.toList b.toList out.reverse.toList na nb → 0 < na → 1 < nb → na ≤ a.size → nb ≤ b.size → na + nb + (x2 + 1) ≤ na2 + nb2 → Q' (.done (none, na, nb, out, x)) st' ∧ Q' (.yield (none, na, nb, out, x)) st')) ⟨fun r c st' sg h => ⟨sg, .inl ⟨r, rfl, h⟩⟩, fun na nb out x st' sg m h1 h2 h3 h4 h5 => ⟨⟨sg, .inr ⟨rfl, ⟨m, h1, h2, h3, h4⟩, Nat.le_trans (Nat.le_add_right _ _) h5⟩⟩, ⟨sg, rfl, ⟨m, h1, h2, h3, h4⟩, h5⟩⟩⟩ ?_
          rintro QQ ⟨qd, qn⟩
          have hjp : ∀ g, PyProof.Rows.wpS M A E s (jp () g) QQ st' := by
            intro g
            dsimp -zeta -zetaHave only [jp, n1, b1, o1, b2, bc1, s0, s1, s2, s3, s4]
            refine wpS_bind (wpS_modify ?_)
            have sg : SameG st _ := sg.set g
            refine wpS_bind (elem_ok (K := K) (by (first | lia | omega)) fun key hkey _ => ?_)
            refine wpS_bind (gallop_ok L (hSb _ _ hkey) hSa (sg.kind.trans hst) (by (first | lia | omega)) (by (first | lia | omega)) (asc_on ha (by (first | lia | omega))) fun k hk hlo hhi => ?_)
            simp only [Bool.false_eq_true, if_false, Nat.zero_add] at hlo hhi
            have m2 := rblkA m1 ha k hk (fun w hw z hz => by
              obtain ⟨i, i1, i2, i3⟩ := mem_td_iff.mp hw
              have := hhi i i1 i2
              rw [kk_of i3] at this
              obtain ⟨j, j1, j3⟩ := mem_take_iff.mp hz
              have := asc_at hb (show j ≤ nb - 1 by (first | lia | omega)) j3 hkey
              (first | lia | omega))
            have hB1 : ∀ z ∈ a.toList.take k, K z ≤ K key := fun z hz => by
              obtain ⟨j, j1, j3⟩ := mem_take_iff.mp hz
              have := hlo j j1
              rw [kk_of j3] at this
              (first | lia | omega)
            (try dsimp -zeta -zetaHave only)
            extract_lets kk2 ac2 jp2 o2 n2
            have hjp2 : ∀ (n : Nat) (o : Array KRow) (st₂ : SortSt), SameG st st₂ → Mrh K a.toList b.toList o.reverse.toList n nb → (∀ z ∈ a.toList.take n, K z ≤ K key) → 0 < n → n ≤ na → PyProof.Rows.wpS M A E s (jp2 () n o) QQ st₂ := by
              intro n o st₂ sg m2 hB hn hle
              dsimp -zeta -zetaHave only [jp2]
              refine wpS_bind (elem_ok (K := K) (by (first | lia | omega)) fun y hy _ => ?_)
              rw [hkey] at hy; cases hy
              have m3 := rpushB m2 hb (by (first | lia | omega)) hkey hB
              extract_lets o3
              refine wpS_ite (fun e3 => ?_) fun e3 => ?_
              · exact wpS_pure (qd _ _ _ sg (rfirst m3 ha hb h0 (beq_eq e3)))
              have e3 : ¬ nb - 1 = 1 := by simpa using e3
              refine wpS_bind (elem_ok (K := K) (by (first | lia | omega)) fun xa hxa _ => ?_)
              refine wpS_bind (gallop_ok L (hSa _ _ hxa) hSb (sg.kind.trans hst) (by (first | lia | omega)) (by (first | lia | omega)) (asc_on hb (by (first | lia | omega))) fun k1 hk1 hlo1 hhi1 => ?_)
              simp only [if_true, Int.add_zero, Nat.zero_add] at hlo1 hhi1
              have m4 := rblkB m3 hb k1 hk1 (fun w hw z hz => by
                obtain ⟨i, i1, i2, i3⟩ := mem_td_iff.mp hw
                have := hhi1 i i1 i2
                rw [kk_of i3] at this
                obtain ⟨j, j1, j3⟩ := mem_take_iff.mp hz
                have := asc_at ha (show j ≤ n - 1 by (first | lia | omega)) j3 hxa
                (first | lia | omega))
              have hA1 : ∀ z ∈ b.toList.take k1, K z ≤ K xa := fun z hz => by
                obtain ⟨j, j1, j3⟩ := mem_take_iff.mp hz
                have := hlo1 j j1
                rw [kk_of j3] at this
                (first | lia | omega)
              (try dsimp -zeta -zetaHave only)
              extract_lets kk3 bc2 jp3 o4 b4
              have hjp3 : ∀ (m : Nat) (o : Array KRow), Mrh K a.toList b.toList o.reverse.toList n m → (∀ z ∈ b.toList.take m, K z ≤ K xa) → 1 < m → m ≤ nb - 1 → PyProof.Rows.wpS M A E s (jp3 () m o) QQ st₂ := by
                intro m o m4 hA hm hle2
                dsimp only [jp3]
                refine wpS_bind (elem_ok (K := K) (by (first | lia | omega)) fun xa2 hxa2 _ => ?_)
                rw [hxa] at hxa2; cases hxa2
                have m5 := rpushA m4 ha (by (first | lia | omega)) hxa hA
                skip
                refine wpS_ite (fun e5 => ?_) fun e5 => ?_
                · exact wpS_pure (qd _ _ _ sg (rdone m5 ha hb (.inl (beq_eq e5))))
                have e5 : ¬ n - 1 = 0 := by simpa using e5
                have q := fun x => qn _ _ _ x _ sg m5 (by (first | lia | omega)) hm (by (first | lia | omega)) (by (first | lia | omega)) (by (first | lia | omega))
                exact wpS_ite (fun _ => wpS_pure (q _).1) fun _ => wpS_pure (q _).2
              refine wpS_ite (fun hk10 => ?_) fun hk10 => ?_
              · refine wpS_ite (fun e4 => ?_) fun e4 => ?_
                · exact wpS_pure (qd _ _ _ sg (rfirst m4 ha hb h0 (beq_eq e4)))
                have e4 : ¬ k1 = 1 := fun h => e4 (beq_iff_eq.mpr h)
                refine wpS_ite (fun e6 => ?_) fun e6 => ?_
                · exact wpS_pure (qd _ _ _ sg (rdone m4 ha hb (.inr (beq_eq e6))))
                have e6 : ¬ k1 = 0 := fun h => e6 (beq_iff_eq.mpr h)
                exact hjp3 _ _ m4 hA1 (by (first | lia | omega)) (by (first | lia | omega))
              · have hk10 : ¬ nb - 1 - k1 > 0 := hk10
                have hk1z : k1 = nb - 1 := by (first | lia | omega)
                exact hjp3 _ _ m3 (hk1z ▸ hA1) (by (first | lia | omega)) (Nat.le_refl _)
            refine wpS_ite (fun hk0 => ?_) fun hk0 => ?_
            · refine wpS_ite (fun e2 => ?_) fun e2 => ?_
              · exact wpS_pure (qd _ _ _ sg (rdone m2 ha hb (.inl (beq_eq e2))))
              have e2 : ¬ k = 0 := fun h => e2 (beq_iff_eq.mpr h)
              exact hjp2 _ _ _ sg m2 hB1 (by (first | lia | omega)) (by (first | lia | omega))
            · have hk0 : ¬ na - k > 0 := hk0
              have hkz : k = na := by (first | lia | omega)
              exact hjp2 _ _ _ sg m1 (hkz ▸ hB1) hna (Nat.le_refl _)
          exact wpS_ite (fun _ => hjp _) fun _ => hjp _
end
end Mine

set_option autoImplicit false
set_option maxHeartbeats 4000000
set_option maxRecDepth 100000
namespace Mine
open PySem PyProof.Rows

section
variable {M : Model} {A : Around} {E : Value → Shared → Prop} {s : Shared} {κ : SortKind} {S : KRow → Prop} {K : KRow → Int}
def putBack (arr merged : Array KRow) (sa : Nat) : Array KRow := merged.toList.zipIdx.foldl (fun a (p : KRow × Nat) => a.setIfInBounds (sa + p.2) p.1) arr
theorem put_go (sa : Nat) : ∀ (l : List KRow) (n : Nat) (arr : Array KRow), ((l.zipIdx n).foldl (fun a (p : KRow × Nat) => a.setIfInBounds (sa + p.2) p.1) arr).size = arr.size ∧
    ∀ i, ((l.zipIdx n).foldl (fun a (p : KRow × Nat) => a.setIfInBounds (sa + p.2) p.1) arr)[i]? = if sa + n ≤ i ∧ i < sa + n + l.length ∧ i < arr.size then l[i - (sa + n)]? else arr[i]?
  | [], n, arr => ⟨rfl, fun i => by rw [if_neg (by simp only [List.length_nil]; (first | lia | omega))]; rfl⟩
  | x :: l, n, arr => by
    rw [List.zipIdx_cons, List.foldl_cons]
    obtain ⟨h1, h2⟩ := put_go sa l (n + 1) (arr.setIfInBounds (sa + n) x)
    refine ⟨h1.trans (Array.size_setIfInBounds ..), fun i => ?_⟩
    rw [h2 i, Array.size_setIfInBounds, Array.getElem?_setIfInBounds]
    simp only [List.length_cons]
    by_cases hi : sa + n = i
    · subst hi
      rw [if_neg (by (first | lia | omega)), if_pos rfl]
      by_cases hs : sa + n < arr.size
      · rw [if_pos hs, if_pos ⟨by (first | lia | omega), by (first | lia | omega), hs⟩]; simp
      · rw [if_neg hs, if_neg (by (first | lia | omega))]
        exact (Array.getElem?_eq_none (by (first | lia | omega))).symm
    · by_cases hc : sa + (n + 1) ≤ i ∧ i < sa + (n + 1) + l.length ∧ i < arr.size
      · rw [if_pos hc, if_pos ⟨by (first | lia | omega), by (first | lia | omega), hc.2.2⟩]
        rw [show i - (sa + n) = (i - (sa + (n + 1))) + 1 by (first | lia | omega)]; simp
      · rw [if_neg hc, if_neg hi, if_neg (by (first | lia | omega))]
theorem put_size (arr merged : Array KRow) (sa : Nat) : (putBack arr merged sa).size = arr.size := (put_go sa merged.toList 0 arr).1
theorem put_get (arr merged : Array KRow) (sa i : Nat) (h : sa + merged.size ≤ arr.size) : (putBack arr merged sa)[i]? = if sa ≤ i ∧ i < sa + merged.size then merged[i - sa]? else arr[i]? := by
  have := (put_go sa merged.toList 0 arr).2 i
  unfold putBack
  rw [this]
  simp only [Nat.add_zero, Array.length_toList]
  by_cases hc : sa ≤ i ∧ i < sa + merged.size
  · rw [if_pos hc, if_pos ⟨hc.1, hc.2, by (first | lia | omega)⟩]; simp
  · rw [if_neg hc, if_neg (by (first | lia | omega))]
theorem put_list (arr merged : Array KRow) (sa : Nat) (h : sa + merged.size ≤ arr.size) : (putBack arr merged sa).toList = arr.toList.take sa ++ (merged.toList ++ arr.toList.drop (sa + merged.size)) := by
  apply List.ext_getElem?
  intro i
  rw [Array.getElem?_toList, put_get _ _ _ _ h]
  by_cases h1 : i < sa
  · rw [if_neg (by (first | lia | omega)), List.getElem?_append_left (by simp; (first | lia | omega)), List.getElem?_take, if_pos h1]; simp
  · rw [List.getElem?_append_right (by simp; (first | lia | omega))]
    have e : (arr.toList.take sa).length = sa := by simp; (first | lia | omega)
    rw [e]
    by_cases h2 : i < sa + merged.size
    · rw [if_pos ⟨by (first | lia | omega), h2⟩, List.getElem?_append_left (by simp; (first | lia | omega))]; simp
    · rw [if_neg (by (first | lia | omega)), List.getElem?_append_right (by simp; (first | lia | omega)), List.getElem?_drop]
      simp only [Array.length_toList, Array.getElem?_toList]
      congr 1; (first | lia | omega)

structure SB (κ : SortKind) (a₀ : Array KRow) (st : SortSt) : Prop where
  perm : (arrOf st).toList.Perm a₀.toList
  kind : PyProof.Rows.kindOf st = κ
  failed : failedOf st = none
variable {a₀ : Array KRow}
theorem SB.size {st : SortSt} (h : SB κ a₀ st) : (arrOf st).size = a₀.size := by have := h.perm.length_eq; simpa using this
theorem SB.allS {st : SortSt} (h : SB κ a₀ st) (hS : AllS S a₀) : AllS S (arrOf st) := fun i x hx => by
  have hm : x ∈ (arrOf st).toList := by
    have := (Array.getElem?_eq_some_iff.mp hx).2
    rw [← this]; simp
  have hm' := h.perm.mem_iff.mp hm
  obtain ⟨j, hj, e⟩ := List.getElem_of_mem hm'
  refine hS j x ?_
  have hj' : j < a₀.size := by simpa using hj
  rw [getElem?_pos a₀ j hj']
  congr 1
theorem AllS.extract {a : Array KRow} (h : AllS S a) (i j : Nat) : AllS S (a.extract i j) := fun k x hx => by
  rw [Array.getElem?_extract] at hx
  split at hx
  · exact h _ _ hx
  · cases hx
theorem asc_of_on {a : Array KRow} {i j : Nat} (h : SortedOn K a i j) (hj : j ≤ a.size) : Asc K (a.extract i j).toList := by
  refine List.pairwise_iff_getElem.mpr fun p q hp hq hpq => ?_
  have hp' : p < j - i := by have := hp; simp at this; (first | lia | omega)
  have hq' : q < j - i := by have := hq; simp at this; (first | lia | omega)
  have e1 : a[i + p]? = some (a.extract i j).toList[p] := by
    rw [getElem?_pos a (i + p) (by (first | lia | omega))]; congr 1; simp
  have e2 : a[i + q]? = some (a.extract i j).toList[q] := by
    rw [getElem?_pos a (i + q) (by (first | lia | omega))]; congr 1; simp
  have := h (i + p) (i + q) (by (first | lia | omega)) (by (first | lia | omega)) (by (first | lia | omega))
  rwa [kk_of e1, kk_of e2] at this
theorem mem_ext_iff {a : Array KRow} {i j : Nat} {z : KRow} : z ∈ (a.extract i j).toList ↔ ∃ p, i ≤ p ∧ p < j ∧ a[p]? = some z := by
  rw [extract_td]; exact mem_td_iff
theorem wpS_set {σ : Type} {st st' : σ} {Q : PUnit → σ → Prop} (h : Q ⟨⟩ st') : PyProof.Rows.wpS M A E s (set st' : StateT σ Sem PUnit) Q st := by
  unfold PyProof.Rows.wpS; rw [StateT.run_set]; exact wpAny_pure ⟨rfl, h⟩

/-- a merge of two neighbouring runs -/
theorem mergeAt_ok {st : SortSt} {i sa na sb nb pw pw' : Nat} {Q : Bool → SortSt → Prop} (L : LtOk M A E s κ S K) (hS : AllS S a₀) (B : SB κ a₀ st) (p1 : (pendingOf st)[i]? = some (sa, na, pw)) (p2 : (pendingOf st)[i + 1]? = some (sb, nb, pw'))
    (hna : 1 ≤ na) (hnb : 1 ≤ nb) (hab : sb = sa + na) (hsz : sb + nb ≤ a₀.size) (h1 : SortedOn K (arrOf st) sa sb) (h2 : SortedOn K (arrOf st) sb (sb + nb))
    (h : ∀ st', SB κ a₀ st' → pendingOf st' = ((pendingOf st).setIfInBounds i (sa, na + nb, pw)).eraseIdxIfInBounds (i + 1) → (∀ j, j < sa ∨ sb + nb ≤ j → (arrOf st')[j]? = (arrOf st)[j]?) → SortedOn K (arrOf st') sa (sb + nb) → Q true st') :
    PyProof.Rows.wpS M A E s (mergeAt' i) Q st := by
  have hS' := B.allS hS
  have hs' : (arrOf st).size = a₀.size := B.size
  unfold mergeAt'
  refine wpS_bind (wpS_get ?_)
  have e1 : (sortPriv% PySem.Builtin.SortState.pending) st = pendingOf st := rfl
  simp only [e1, p1, p2]
  refine wpS_bind (wpS_set ?_)
  generalize hp' : ((pendingOf st).setIfInBounds i (sa, na + nb, pw)).eraseIdxIfInBounds (i + 1) = p' at h ⊢
  have B₁ : SB κ a₀ (SortSt.mk' (PyProof.Rows.kindOf st) (arrOf st) p' (gallopOf st) (failedOf st)) := ⟨B.perm, B.kind, B.failed⟩
  refine wpS_bind (elem_ok (K := K) (by show sb < (arrOf st).size; (first | lia | omega)) fun key hkey hkk => ?_)
  refine wpS_bind (gallop_ok L (hS' _ _ hkey) hS' B.kind (by show sa + na ≤ (arrOf st).size; (first | lia | omega)) (by (first | lia | omega)) (by rw [← hab]; exact h1) fun k hk hlo hhi => ?_)
  simp only [Bool.false_eq_true, if_false] at hlo hhi
  have hlo : ∀ i, i < k → kk K (arrOf st) (sa + i) < K key + 1 := hlo
  have hhi : ∀ i, k ≤ i → i < na → ¬ kk K (arrOf st) (sa + i) < K key + 1 := hhi
  dsimp only
  have hk0 : kk K (arrOf st) sb = K key := kk_of hkey
  by_cases c1 : (na - k == 0) = true
  · rw [if_pos c1]
    have c1 := beq_eq c1
    refine wpS_pure (h _ B₁ rfl (fun _ _ => rfl) fun x y hx hxy hy => ?_)
    show kk K (arrOf st) x ≤ kk K (arrOf st) y
    by_cases hy1 : y < sb
    · exact h1 x y hx hxy hy1
    · by_cases hx1 : x < sb
      · have q1 := hlo (x - sa) (by (first | lia | omega))
        rw [show sa + (x - sa) = x by (first | lia | omega)] at q1
        have q2 := h2 sb y (Nat.le_refl _) (by (first | lia | omega)) hy
        (first | lia | omega)
      · exact h2 x y (by (first | lia | omega)) hxy hy
  rw [if_neg c1]
  have c1 : ¬ na - k = 0 := by simpa using c1
  refine wpS_bind (elem_ok (K := K) (by show sa + k + (na - k) - 1 < (arrOf st).size; (first | lia | omega)) fun last hlast hkl => ?_)
  have hlast : (arrOf st)[sb - 1]? = some last := by rw [show sb - 1 = sa + k + (na - k) - 1 by (first | lia | omega)]; exact hlast
  have hl0 : kk K (arrOf st) (sb - 1) = K last := kk_of hlast
  refine wpS_bind (gallop_ok L (hS' _ _ hlast) hS' B.kind (by show sb + nb ≤ (arrOf st).size; (first | lia | omega)) (by (first | lia | omega)) h2 fun nb' hnb' hlo2 hhi2 => ?_)
  simp only [if_true, Int.add_zero] at hlo2 hhi2
  have hlo2 : ∀ i, i < nb' → kk K (arrOf st) (sb + i) < K last := hlo2
  have hhi2 : ∀ i, nb' ≤ i → i < nb → ¬ kk K (arrOf st) (sb + i) < K last := hhi2
  dsimp only
  by_cases c2 : (nb' == 0) = true
  · rw [if_pos c2]
    have c2 := beq_eq c2
    refine wpS_pure (h _ B₁ rfl (fun _ _ => rfl) fun x y hx hxy hy => ?_)
    show kk K (arrOf st) x ≤ kk K (arrOf st) y
    by_cases hy1 : y < sb
    · exact h1 x y hx hxy hy1
    · by_cases hx1 : x < sb
      · have q1 := hhi2 (y - sb) (by (first | lia | omega)) (by (first | lia | omega))
        rw [show sb + (y - sb) = y by (first | lia | omega)] at q1
        have q2 := h1 x (sb - 1) hx (by (first | lia | omega)) (by (first | lia | omega))
        (first | lia | omega)
      · exact h2 x y (by (first | lia | omega)) hxy hy
  rw [if_neg c2]
  have c2 : ¬ nb' = 0 := by simpa using c2
  have zx : ((arrOf st).extract (sa + k) sb).size = na - k := by simp; (first | lia | omega)
  have zy : ((arrOf st).extract sb (sb + nb')).size = nb' := by simp; (first | lia | omega)
  have ax : Asc K ((arrOf st).extract (sa + k) sb).toList := asc_of_on (fun x y hx hxy hy => h1 x y (by (first | lia | omega)) hxy hy) (by (first | lia | omega))
  have ay : Asc K ((arrOf st).extract sb (sb + nb')).toList := asc_of_on (fun x y hx hxy hy => h2 x y hx hxy (by (first | lia | omega))) (by (first | lia | omega))
  have bx : ∀ z ∈ ((arrOf st).extract (sa + k) sb).toList, K key + 1 ≤ K z ∧ K z ≤ K last := fun z hz => by
    obtain ⟨p, q1, q2, q3⟩ := mem_ext_iff.mp hz
    have q4 := hhi (p - sa) (by (first | lia | omega)) (by (first | lia | omega))
    rw [show sa + (p - sa) = p by (first | lia | omega), kk_of q3] at q4
    have q5 := h1 p (sb - 1) (by (first | lia | omega)) (by (first | lia | omega)) (by (first | lia | omega))
    rw [kk_of q3] at q5
    (first | lia | omega)
  have by' : ∀ z ∈ ((arrOf st).extract sb (sb + nb')).toList, K key ≤ K z ∧ K z < K last := fun z hz => by
    obtain ⟨p, q1, q2, q3⟩ := mem_ext_iff.mp hz
    have q4 := hlo2 (p - sb) (by (first | lia | omega))
    rw [show sb + (p - sb) = p by (first | lia | omega), kk_of q3] at q4
    have q5 := h2 sb p (Nat.le_refl _) q1 (by (first | lia | omega))
    rw [kk_of q3] at q5
    (first | lia | omega)
  have c0 : ∀ x ∈ ((arrOf st).extract sb (sb + nb')).toList.take 1, ∀ z ∈ ((arrOf st).extract (sa + k) sb).toList, K x ≤ K z := fun x hx z hz => by
    obtain ⟨p, q1, q2⟩ := mem_take_iff.mp hx
    have : p = 0 := by (first | lia | omega)
    subst this
    rw [Array.getElem?_extract, if_pos (by (first | lia | omega)), Nat.add_zero, hkey] at q2
    cases q2
    have := (bx z hz).1; (first | lia | omega)
  have cl : ∀ x ∈ ((arrOf st).extract (sa + k) sb).toList.drop (((arrOf st).extract (sa + k) sb).size - 1), ∀ y ∈ ((arrOf st).extract sb (sb + nb')).toList, K y ≤ K x := fun x hx y hy => by
    obtain ⟨p, q2⟩ := mem_drop_iff.mp hx
    have hp := size_of q2
    rw [Array.getElem?_extract, if_pos (by (first | lia | omega)), show sa + k + (((arrOf st).extract (sa + k) sb).size - 1 + p) = sb - 1 by (first | lia | omega), hlast] at q2
    cases q2
    exact Int.le_of_lt (by' y hy).2
  have hkl' : K key + 1 ≤ K last := by
    have := hhi (sb - 1 - sa) (by (first | lia | omega)) (by (first | lia | omega))
    rw [show sa + (sb - 1 - sa) = sb - 1 by (first | lia | omega)] at this
    (first | lia | omega)
  have fin : ∀ merged st₂, Rs K ((arrOf st).extract (sa + k) sb) ((arrOf st).extract sb (sb + nb')) merged → SameG (SortSt.mk' (PyProof.Rows.kindOf st) (arrOf st) p' (gallopOf st) (failedOf st)) st₂ →
      Q true (SortSt.mk' (PyProof.Rows.kindOf st₂) (putBack (arrOf st₂) merged (sa + k)) (pendingOf st₂) (gallopOf st₂) (failedOf st₂)) := by
    rintro merged st₂ ⟨hperm, hasc⟩ ⟨g, rfl⟩
    have msz : merged.size = na - k + nb' := by
      have := hperm.length_eq; simp only [List.length_append, Array.length_toList, zx, zy] at this; exact this
    have hfit : sa + k + merged.size ≤ (arrOf st).size := by (first | lia | omega)
    refine h _ ⟨?_, B.kind, B.failed⟩ rfl (fun j hj => ?_) fun x y hx hxy hy => ?_
    · show (putBack (arrOf st) merged (sa + k)).toList.Perm a₀.toList
      refine List.Perm.trans ?_ B.perm
      rw [put_list _ _ _ hfit]
      have e : (arrOf st).toList = (arrOf st).toList.take (sa + k) ++ ((((arrOf st).extract (sa + k) sb).toList ++ ((arrOf st).extract sb (sb + nb')).toList) ++ (arrOf st).toList.drop (sa + k + merged.size)) := by
        rw [extract_td, extract_td, msz, show sa + k + (na - k + nb') = sb + nb' by (first | lia | omega), List.append_assoc]
        rw [← drop_split (arrOf st).toList (show sb ≤ sb + nb' by (first | lia | omega)), ← drop_split (arrOf st).toList (show sa + k ≤ sb by (first | lia | omega)), List.take_append_drop]
      have := ((hperm.append_right ((arrOf st).toList.drop (sa + k + merged.size))).append_left ((arrOf st).toList.take (sa + k)))
      rw [← e] at this
      exact this
    · show (putBack (arrOf st) merged (sa + k))[j]? = (arrOf st)[j]?
      rw [put_get _ _ _ _ hfit, if_neg (by (first | lia | omega))]
    · show kk K (putBack (arrOf st) merged (sa + k)) x ≤ kk K (putBack (arrOf st) merged (sa + k)) y
      have val : ∀ p, sa ≤ p → p < sb + nb → (p < sa + k ∧ kk K (putBack (arrOf st) merged (sa + k)) p = kk K (arrOf st) p ∧ kk K (arrOf st) p ≤ K key) ∨
          (sa + k ≤ p ∧ p < sb + nb' ∧ ∃ z, merged[p - (sa + k)]? = some z ∧ kk K (putBack (arrOf st) merged (sa + k)) p = K z ∧ K key ≤ K z ∧ K z ≤ K last) ∨
          (sb + nb' ≤ p ∧ kk K (putBack (arrOf st) merged (sa + k)) p = kk K (arrOf st) p ∧ K last ≤ kk K (arrOf st) p) := by
        intro p hp1 hp2
        by_cases g1 : p < sa + k
        · refine .inl ⟨g1, ?_, ?_⟩
          · unfold kk; rw [put_get _ _ _ _ hfit, if_neg (by (first | lia | omega))]
          · have := hlo (p - sa) (by (first | lia | omega))
            rw [show sa + (p - sa) = p by (first | lia | omega)] at this; (first | lia | omega)
        · by_cases g2 : p < sb + nb'
          · have hm : p - (sa + k) < merged.size := by (first | lia | omega)
            have e := getElem?_pos merged (p - (sa + k)) hm
            have hz : merged[p - (sa + k)] ∈ ((arrOf st).extract (sa + k) sb).toList ++ ((arrOf st).extract sb (sb + nb')).toList := hperm.mem_iff.mp (by simp)
            refine .inr (.inl ⟨by (first | lia | omega), g2, _, e, ?_, ?_⟩)
            · unfold kk; rw [put_get _ _ _ _ hfit, if_pos (by (first | lia | omega)), e]
            · rcases List.mem_append.mp hz with hz | hz
              · have := bx _ hz; (first | lia | omega)
              · have := by' _ hz; (first | lia | omega)
          · refine .inr (.inr ⟨by (first | lia | omega), ?_, ?_⟩)
            · unfold kk; rw [put_get _ _ _ _ hfit, if_neg (by (first | lia | omega))]
            · have := hhi2 (p - sb) (by (first | lia | omega)) (by (first | lia | omega))
              rw [show sb + (p - sb) = p by (first | lia | omega)] at this; (first | lia | omega)
      rcases val x hx (by (first | lia | omega)) with ⟨v1, v2, v3⟩ | ⟨v1, v1', z, v2, v3, v4, v5⟩ | ⟨v1, v2, v3⟩ <;> rcases val y (by (first | lia | omega)) hy with ⟨w1, w2, w3⟩ | ⟨w1, w1', z', w2, w3, w4, w5⟩ | ⟨w1, w2, w3⟩ <;> first
        | (first | lia | omega)
        | (rw [v2, w2]; exact h1 x y hx hxy (by (first | lia | omega)))
        | (rw [v3, w3]; exact asc_at hasc (show x - (sa + k) ≤ y - (sa + k) by (first | lia | omega)) v2 w2)
        | (rw [v2, w2]; exact h2 x y (by (first | lia | omega)) hxy hy)
  have last_step : ∀ merged st₂, Rs K ((arrOf st).extract (sa + k) sb) ((arrOf st).extract sb (sb + nb')) merged → SameG (SortSt.mk' (PyProof.Rows.kindOf st) (arrOf st) p' (gallopOf st) (failedOf st)) st₂ → failedOf st₂ = none := by
    rintro merged st₂ _ ⟨g, rfl⟩; exact B.failed
  split
  · refine wpS_bind (mergeLo_ok L (hS'.extract _ _) (hS'.extract _ _) B.kind (by show 1 ≤ ((arrOf st).extract (sa + k) sb).size; (first | lia | omega)) (by show 1 ≤ ((arrOf st).extract sb (sb + nb')).size; (first | lia | omega)) ax ay c0 cl fun merged st₂ hR sg => ?_)
    refine wpS_bind (wpS_modify (wpS_bind (wpS_get (wpS_pure ?_))))
    have hf := last_step merged st₂ hR sg
    have := fin merged st₂ hR sg
    show Q (failedOf st₂).isNone _
    rw [hf]; exact this
  · refine wpS_bind (mergeHi_ok L (hS'.extract _ _) (hS'.extract _ _) B.kind (by show 1 ≤ ((arrOf st).extract (sa + k) sb).size; (first | lia | omega)) (by show 1 ≤ ((arrOf st).extract sb (sb + nb')).size; (first | lia | omega)) ax ay c0 cl fun merged st₂ hR sg => ?_)
    refine wpS_bind (wpS_modify (wpS_bind (wpS_get (wpS_pure ?_))))
    have hf := last_step merged st₂ hR sg
    have := fin merged st₂ hR sg
    show Q (failedOf st₂).isNone _
    rw [hf]; exact this
end
end Mine

set_option autoImplicit false
set_option maxHeartbeats 4000000
set_option maxRecDepth 100000
namespace Mine
open PySem PyProof.Rows

section
variable {M : Model} {A : Around} {E : Value → Shared → Prop} {s : Shared} {κ : SortKind} {S : KRow → Prop} {K : KRow → Int} {a₀ : Array KRow}
theorem ltAt_ok {st : SortSt} {i j : Nat} {Q : Option Bool → SortSt → Prop} (L : LtOk M A E s κ S K) (hS : AllS S a₀) (B : SB κ a₀ st) (hi : i < a₀.size) (hj : j < a₀.size)
    (h : Q (some (decide (kk K (arrOf st) i < kk K (arrOf st) j))) st) : PyProof.Rows.wpS M A E s (ltAt' i j) Q st := by
  have hz := B.size
  have hS' := B.allS hS
  rw [ltAt'_eq]
  refine wpS_bind (wpS_get ?_)
  refine wpS_bind (elem_ok (K := K) (by show i < (arrOf st).size; (first | lia | omega)) fun x hx hkx => ?_)
  refine wpS_bind (elem_ok (K := K) (by show j < (arrOf st).size; (first | lia | omega)) fun y hy hky => ?_)
  have hkx : kk K (arrOf st) i = K x := hkx
  have hky : kk K (arrOf st) j = K y := hky
  rw [hkx, hky] at h
  exact L _ _ _ _ (hS' _ _ hx) (hS' _ _ hy) B.kind h

/-- nothing outside [lo, hi) has changed -/
structure Frm (lo hi : Nat) (st st' : SortSt) : Prop where
  pend : pendingOf st' = pendingOf st
  out : ∀ j, j < lo ∨ hi ≤ j → (arrOf st')[j]? = (arrOf st)[j]?
theorem Frm.refl (lo hi : Nat) (st : SortSt) : Frm lo hi st st := ⟨rfl, fun _ _ => rfl⟩
theorem Frm.trans {lo hi : Nat} {a b c : SortSt} (x : Frm lo hi a b) (y : Frm lo hi b c) : Frm lo hi a c := ⟨y.pend.trans x.pend, fun j hj => (y.out j hj).trans (x.out j hj)⟩
theorem Frm.up {lo hi hi' : Nat} {a b : SortSt} (x : Frm lo hi a b) (h : hi ≤ hi') : Frm lo hi' a b := ⟨x.pend, fun j hj => x.out j (by (first | lia | omega))⟩
theorem SB.arr {st : SortSt} (B : SB κ a₀ st) {xs : Array KRow} (hp : xs.Perm (arrOf st)) : SB κ a₀ (setArr st xs) := ⟨(Array.perm_iff_toList_perm.mp hp).trans B.perm, B.kind, B.failed⟩
theorem kk_bubble {xs : Array KRow} {src d : Nat} (hs : src < xs.size) (hd : d ≤ src) (k : Nat) : kk K (bubble xs src d) k = if k = src - d then kk K xs src else if src - d < k ∧ k ≤ src then kk K xs (k - 1) else kk K xs k := by
  have e := getElem?_bubble hs d hd k
  unfold kk
  rw [e]
  repeat' split
  all_goals first | rfl | (exfalso; (first | lia | omega)) | simp_all

theorem binarySort_ok {st : SortSt} {lo n ok : Nat} {Q : Bool → SortSt → Prop} (L : LtOk M A E s κ S K) (hS : AllS S a₀) (B : SB κ a₀ st) (hn : lo + n ≤ a₀.size) (hok : ok ≤ n) (hs : SortedOn K (arrOf st) lo (lo + ok))
    (h : ∀ st', SB κ a₀ st' → Frm lo (lo + n) st st' → SortedOn K (arrOf st') lo (lo + n) → Q true st') : PyProof.Rows.wpS M A E s (binarySort' lo n ok) Q st := by
  rw [binarySort'_eq]
  refine wpS_bind (wpS_mono (wpS_forRange (I := fun k c st' => c = (none, ()) ∧ SB κ a₀ st' ∧ Frm lo (lo + n) st st' ∧ SortedOn K (arrOf st') lo (lo + min k n))
    (Q := fun c st' => c = (none, ()) ∧ SB κ a₀ st' ∧ Frm lo (lo + n) st st' ∧ SortedOn K (arrOf st') lo (lo + n)) ?step ?fin ?init) ?post)
  case post =>
    rintro c st' ⟨rfl, B', F', hs'⟩
    exact wpS_pure (h st' B' F' hs')
  case init =>
    refine ⟨rfl, B, .refl _ _ _, fun i j hi hij hj => ?_⟩
    by_cases h1 : ok = 0
    · have : i = j := by (first | lia | omega)
      subst this; exact Int.le_refl _
    · exact hs i j hi hij (by (first | lia | omega))
  case fin =>
    rintro c st' ⟨hc, B', F', hs'⟩
    refine ⟨hc, B', F', ?_⟩
    rwa [show min (max (max ok 1) n) n = n by (first | lia | omega)] at hs'
  case step =>
    rintro k c st' hak hkn ⟨rfl, B', F', hs'⟩
    rw [show min k n = k by (first | lia | omega)] at hs'
    have hz := B'.size
    refine wpS_bind (wpS_mono (wpS_forRange (I := fun x c st'' => st' = st'' ∧ ∃ l r, c = (none, l, r) ∧ l ≤ r ∧ r ≤ k ∧ r - l ≤ k - x ∧
        (∀ i, i < l → kk K (arrOf st') (lo + i) ≤ kk K (arrOf st') (lo + k)) ∧ (∀ i, r ≤ i → i < k → kk K (arrOf st') (lo + k) < kk K (arrOf st') (lo + i)))
      (Q := fun c st'' => st' = st'' ∧ ∃ l r, c = (none, l, r) ∧ l ≤ k ∧
        (∀ i, i < l → kk K (arrOf st') (lo + i) ≤ kk K (arrOf st') (lo + k)) ∧ (∀ i, l ≤ i → i < k → kk K (arrOf st') (lo + k) < kk K (arrOf st') (lo + i))) ?istep ?ifin ?iinit) ?ipost)
    case iinit => exact ⟨rfl, 0, k, rfl, by (first | lia | omega), by (first | lia | omega), by (first | lia | omega), fun i hi => by (first | lia | omega), fun i h1 h2 => by (first | lia | omega)⟩
    case ifin =>
      rintro c st'' ⟨rfl, l, r, rfl, hlr, hrk, hm, hlo, hhi⟩
      have : l = r := by (first | lia | omega)
      subst this
      exact ⟨rfl, l, l, rfl, hrk, hlo, hhi⟩
    case istep =>
      rintro x c st'' _ hxk ⟨rfl, l, r, rfl, hlr, hrk, hm, hlo, hhi⟩
      dsimp only
      by_cases hge : l ≥ r
      · rw [if_pos hge]
        have : l = r := by (first | lia | omega)
        subst this
        exact wpS_pure ⟨rfl, l, l, rfl, hrk, hlo, hhi⟩
      · rw [if_neg hge]
        refine wpS_bind (ltAt_ok L hS B' (by (first | lia | omega)) (by (first | lia | omega)) ?_)
        by_cases hless : kk K (arrOf st') (lo + k) < kk K (arrOf st') (lo + (l + r) / 2)
        · simp only [hless, decide_true, if_true]
          refine wpS_pure ⟨rfl, l, (l + r) / 2, rfl, by (first | lia | omega), by (first | lia | omega), by (first | lia | omega), hlo, fun i h1 h2 => ?_⟩
          exact Int.lt_of_lt_of_le hless (hs' _ _ (by (first | lia | omega)) (by (first | lia | omega)) (by (first | lia | omega)))
        · simp only [hless, decide_false, Bool.false_eq_true, if_false]
          refine wpS_pure ⟨rfl, (l + r) / 2 + 1, r, rfl, by (first | lia | omega), by (first | lia | omega), by (first | lia | omega), fun i h1 => ?_, hhi⟩
          exact Int.le_trans (hs' (lo + i) (lo + (l + r) / 2) (by (first | lia | omega)) (by (first | lia | omega)) (by (first | lia | omega))) (Int.not_lt.mp hless)
    case ipost =>
      rintro c st'' ⟨rfl, l, r, rfl, hlk, hlo, hhi⟩
      show PyProof.Rows.wpS _ _ _ _ (do moveDown' (lo + k) (lo + l); pure (ForInStep.yield (none, ()))) _ _
      rw [moveDown'_eq]
      have hks : lo + k < (arrOf st').size := by (first | lia | omega)
      refine wpS_bind (wpS_modify (wpS_pure ⟨rfl, B'.arr (bubble_perm _ _ _), F'.trans ⟨rfl, fun j hj => ?_⟩, ?_⟩))
      · show (bubble (arrOf st') (lo + k) (lo + k - (lo + l)))[j]? = _
        rw [getElem?_bubble hks _ (by (first | lia | omega)), if_neg (by (first | lia | omega)), if_neg (by (first | lia | omega))]
      · rw [show min (k + 1) n = k + 1 by (first | lia | omega)]
        intro i j hi hij hj
        show kk K (bubble (arrOf st') (lo + k) (lo + k - (lo + l))) i ≤ kk K (bubble (arrOf st') (lo + k) (lo + k - (lo + l))) j
        rw [kk_bubble hks (by (first | lia | omega)), kk_bubble hks (by (first | lia | omega)), show lo + k - (lo + k - (lo + l)) = lo + l by (first | lia | omega)]
        have g1 : ∀ p, lo ≤ p → p < lo + l → kk K (arrOf st') p ≤ kk K (arrOf st') (lo + k) := fun p h1 h2 => by
          have := hlo (p - lo) (by (first | lia | omega)); rwa [show lo + (p - lo) = p by (first | lia | omega)] at this
        have g2 : ∀ p, lo + l ≤ p → p < lo + k → kk K (arrOf st') (lo + k) ≤ kk K (arrOf st') p := fun p h1 h2 => by
          have := hhi (p - lo) (by (first | lia | omega)) (by (first | lia | omega)); rw [show lo + (p - lo) = p by (first | lia | omega)] at this; exact Int.le_of_lt this
        repeat' split
        all_goals first
          | (exfalso; (first | lia | omega))
          | exact Int.le_refl _
          | exact g1 _ (by (first | lia | omega)) (by (first | lia | omega))
          | exact g2 _ (by (first | lia | omega)) (by (first | lia | omega))
          | exact hs' _ _ (by (first | lia | omega)) (by (first | lia | omega)) (by (first | lia | omega))
end
end Mine

set_option autoImplicit false
set_option maxHeartbeats 4000000
set_option maxRecDepth 100000
namespace Mine
open PySem PyProof.Rows

section
variable {M : Model} {A : Around} {E : Value → Shared → Prop} {s : Shared} {κ : SortKind} {S : KRow → Prop} {K : KRow → Int} {a₀ : Array KRow}
theorem kk_mirror {xs : Array KRow} {i j : Nat} (hj : j ≤ xs.size) (k : Nat) : kk K (mirror xs i j ((j - i) / 2)) k = if i ≤ k ∧ k < j then kk K xs (i + j - 1 - k) else kk K xs k := by
  have e := getElem?_mirror_all (i := i) hj k
  by_cases hc : i ≤ k ∧ k < j
  · rw [if_pos hc] at e ⊢; unfold kk; rw [e]
  · rw [if_neg hc] at e ⊢; unfold kk; rw [e]
theorem rev_ok {st : SortSt} {i j lo hi : Nat} {Q : Unit → SortSt → Prop} (B : SB κ a₀ st) (hj : j ≤ a₀.size) (hi1 : lo ≤ i) (hj1 : j ≤ hi)
    (h : ∀ st', SB κ a₀ st' → Frm lo hi st st' → (∀ k, kk K (arrOf st') k = if i ≤ k ∧ k < j then kk K (arrOf st) (i + j - 1 - k) else kk K (arrOf st) k) → Q () st') : PyProof.Rows.wpS M A E s (reverseSlice' i j) Q st := by
  have hz := B.size
  rw [reverseSlice'_eq]
  refine wpS_modify (h _ (B.arr (mirror_perm _ _ _ _)) ⟨rfl, fun k hk => ?_⟩ fun k => kk_mirror (by (first | lia | omega)) k)
  show (mirror (arrOf st) i j ((j - i) / 2))[k]? = _
  rw [getElem?_mirror_all (by (first | lia | omega)), if_neg (by (first | lia | omega))]
def Dec (K : KRow → Int) (a : Array KRow) (lo hi : Nat) : Prop := ∀ i j, lo ≤ i → i ≤ j → j < hi → kk K a j ≤ kk K a i
theorem dec_of {a : Array KRow} {lo n : Nat} (hs : SortedOn K a lo (lo + n)) (he : kk K a (lo + n - 1) ≤ kk K a lo) (hn : 1 ≤ n) (hl : kk K a (lo + n) < kk K a (lo + n - 1)) : Dec K a lo (lo + (n + 1)) := by
  intro i j hi hij hj
  have h1 : ∀ p, lo ≤ p → p < lo + n → kk K a p = kk K a lo := fun p h1 h2 => by
    have := hs lo p (Nat.le_refl _) h1 h2
    have := hs p (lo + n - 1) h1 (by (first | lia | omega)) (by (first | lia | omega))
    (first | lia | omega)
  have h2 := h1 (lo + n - 1) (by (first | lia | omega)) (by (first | lia | omega))
  by_cases hjn : j = lo + n
  · subst hjn
    by_cases hin : i = lo + n
    · subst hin; exact Int.le_refl _
    · rw [h1 i hi (by (first | lia | omega))]; (first | lia | omega)
  · rw [h1 i hi (by (first | lia | omega)), h1 j (by (first | lia | omega)) (by (first | lia | omega))]; exact Int.le_refl _

theorem one_on {a : Array KRow} (lo : Nat) : SortedOn K a lo (lo + 1) := fun i j h1 h2 h3 => by
  have : i = j := by (first | lia | omega)
  subst this; exact Int.le_refl _
theorem asc_step {a : Array KRow} {lo x : Nat} (hs : SortedOn K a lo (lo + x)) (hx : 1 ≤ x) (hl : kk K a (lo + x - 1) ≤ kk K a (lo + x)) : SortedOn K a lo (lo + (x + 1)) := fun i j h1 h2 h3 => by
  by_cases hj : j = lo + x
  · subst hj
    by_cases hi : i = lo + x
    · subst hi; exact Int.le_refl _
    · have := hs i (lo + x - 1) h1 (by (first | lia | omega)) (by (first | lia | omega)); (first | lia | omega)
  · exact hs i j h1 h2 (by (first | lia | omega))

theorem countRun_ok {st : SortSt} {lo nrem : Nat} {Q : Option Nat → SortSt → Prop} (L : LtOk M A E s κ S K) (hS : AllS S a₀) (B : SB κ a₀ st) (hn : lo + nrem ≤ a₀.size) (h1 : 1 ≤ nrem)
    (h : ∀ n st', SB κ a₀ st' → 1 ≤ n → n ≤ nrem → Frm lo (lo + n) st st' → SortedOn K (arrOf st') lo (lo + n) → Q (some n) st') : PyProof.Rows.wpS M A E s (countRun' lo nrem) Q st := by
  unfold countRun'
  refine wpS_bind (wpS_mono (wpS_forRange (I := fun x c st' => st = st' ∧ c = (none, x) ∧ SortedOn K (arrOf st) lo (lo + x))
    (Q := fun c st' => st = st' ∧ ∃ n, c = (none, n) ∧ 1 ≤ n ∧ n ≤ nrem ∧ SortedOn K (arrOf st) lo (lo + n) ∧ (n = nrem ∨ kk K (arrOf st) (lo + n) < kk K (arrOf st) (lo + n - 1))) ?s1 ?f1 ⟨rfl, rfl, one_on _⟩) ?p1)
  case s1 =>
    rintro x c st' hx1 hx ⟨rfl, rfl, hs⟩
    dsimp only
    refine wpS_bind (ltAt_ok L hS B (by (first | lia | omega)) (by (first | lia | omega)) ?_)
    dsimp only
    by_cases hl : kk K (arrOf st) (lo + x) < kk K (arrOf st) (lo + x - 1)
    · rw [decide_eq_true hl, if_pos rfl]
      exact wpS_pure ⟨rfl, x, rfl, hx1, by (first | lia | omega), hs, .inr hl⟩
    · rw [decide_eq_false hl, if_neg (by decide)]
      exact wpS_pure ⟨rfl, rfl, asc_step hs (by (first | lia | omega)) (by (first | lia | omega))⟩
  case f1 =>
    rintro c st' ⟨rfl, rfl, hs⟩
    exact ⟨rfl, _, rfl, by (first | lia | omega), by (first | lia | omega), hs, .inl (by (first | lia | omega))⟩
  case p1 =>
    rintro c st' ⟨rfl, n, rfl, hn1, hn2, hs, hlt⟩
    dsimp only
    by_cases c1 : (n == nrem) = true
    · rw [if_pos c1]
      exact wpS_pure (h n st B hn1 hn2 (.refl _ _ _) hs)
    rw [if_neg c1]
    have c1 : ¬ n = nrem := by simpa using c1
    have hlt : kk K (arrOf st) (lo + n) < kk K (arrOf st) (lo + n - 1) := hlt.resolve_left c1
    by_cases c2 : n > 1
    · rw [if_pos c2]
      refine wpS_bind (ltAt_ok L hS B (by (first | lia | omega)) (by (first | lia | omega)) ?_)
      dsimp only
      by_cases hr : kk K (arrOf st) lo < kk K (arrOf st) (lo + n - 1)
      · rw [decide_eq_true hr, if_pos rfl]
        exact wpS_pure (h n st B hn1 hn2 (.refl _ _ _) hs)
      rw [decide_eq_false hr, if_neg (by decide)]
      refine wpS_bind (rev_ok (lo := lo) (hi := lo + n) (K := K) B (by (first | lia | omega)) (Nat.le_refl _) (Nat.le_refl _) fun st₁ B₁ F₁ hk₁ => ?_)
      have D₀ := dec_of hs (by (first | lia | omega)) hn1 hlt
      have hk₁ : ∀ k, kk K (arrOf st₁) k = kk K (arrOf st) k := fun k => by
        rw [hk₁ k]; split
        · have := D₀ lo k (Nat.le_refl _) (by (first | lia | omega)) (by (first | lia | omega))
          have := D₀ lo (lo + (lo + n) - 1 - k) (Nat.le_refl _) (by (first | lia | omega)) (by (first | lia | omega))
          have := hs lo k (Nat.le_refl _) (by (first | lia | omega)) (by (first | lia | omega))
          have := hs lo (lo + (lo + n) - 1 - k) (Nat.le_refl _) (by (first | lia | omega)) (by (first | lia | omega))
          (first | lia | omega)
        · rfl
      have D : Dec K (arrOf st₁) lo (lo + (n + 1)) := fun i j q1 q2 q3 => by rw [hk₁, hk₁]; exact D₀ i j q1 q2 q3
      refine wpS_bind (wpS_lift (wpAny_rule ⟨rfl, ?_⟩))
      refine wpS_bind (wpS_mono (wpS_forRange (I := fun x c st' => SB κ a₀ st' ∧ Frm lo (lo + x) st st' ∧ c.1 = none ∧ c.2.1 = x ∧ Dec K (arrOf st') lo (lo + x) ∧ (∀ i, lo + x - (c.2.2 + 1) ≤ i → i < lo + x → kk K (arrOf st') i = kk K (arrOf st') (lo + x - 1)) ∧ c.2.2 + 1 ≤ x)
        (Q := fun c st' => SB κ a₀ st' ∧ c.1 = none ∧ n + 1 ≤ c.2.1 ∧ c.2.1 ≤ nrem ∧ Frm lo (lo + c.2.1) st st' ∧ Dec K (arrOf st') lo (lo + c.2.1) ∧ (∀ i, lo + c.2.1 - (c.2.2 + 1) ≤ i → i < lo + c.2.1 → kk K (arrOf st') i = kk K (arrOf st') (lo + c.2.1 - 1)) ∧ c.2.2 + 1 ≤ c.2.1) ?_ ?_
        ⟨B₁, F₁.up (by (first | lia | omega)), rfl, rfl, D, fun i q1 q2 => by dsimp only at q1; rw [show i = lo + (n + 1) - 1 by (first | lia | omega)], by dsimp only; (first | lia | omega)⟩) ?_)
      · rintro x ⟨c1, x', neq⟩ st' hx1 hx ⟨B', F', hc1, hx', D', hq, hle⟩
        dsimp only at hc1 hx' hq hle ⊢
        subst hc1; subst hx'
        refine wpS_bind (ltAt_ok L hS B' (by (first | lia | omega)) (by (first | lia | omega)) ?_)
        dsimp only
        by_cases hl : kk K (arrOf st') (lo + x') < kk K (arrOf st') (lo + x' - 1)
        · rw [decide_eq_true hl, if_pos rfl]
          have ext : ∀ st'', (∀ k, kk K (arrOf st'') k = kk K (arrOf st') k) → Dec K (arrOf st'') lo (lo + (x' + 1)) := fun st'' he i j q1 q2 q3 => by
            rw [he, he]
            by_cases hj : j = lo + x'
            · subst hj
              by_cases hi : i = lo + x'
              · subst hi; exact Int.le_refl _
              · have := D' i (lo + x' - 1) q1 (by (first | lia | omega)) (by (first | lia | omega)); (first | lia | omega)
            · exact D' i j q1 q2 (by (first | lia | omega))
          by_cases hne : neq > 0
          · rw [if_pos hne]
            refine wpS_bind (rev_ok (lo := lo) (hi := lo + x') (K := K) B' (by (first | lia | omega)) (by (first | lia | omega)) (Nat.le_refl _) fun st'' B'' F'' hk'' => ?_)
            have he : ∀ k, kk K (arrOf st'') k = kk K (arrOf st') k := fun k => by
              rw [hk'' k]; split
              · rw [hq k (by (first | lia | omega)) (by (first | lia | omega)), hq _ (by (first | lia | omega)) (by (first | lia | omega))]
              · rfl
            exact wpS_pure ⟨B'', (F'.trans F'').up (by (first | lia | omega)), rfl, rfl, ext st'' he, fun i q1 q2 => by dsimp only at q1; rw [show i = lo + (x' + 1) - 1 by (first | lia | omega)], by dsimp only; (first | lia | omega)⟩
          · rw [if_neg hne]
            exact wpS_pure ⟨B', F'.up (by (first | lia | omega)), rfl, rfl, ext st' (fun _ => rfl), fun i q1 q2 => by dsimp only at q1; rw [show i = lo + (x' + 1) - 1 by (first | lia | omega)], by dsimp only; (first | lia | omega)⟩
        · rw [decide_eq_false hl, if_neg (by decide)]
          refine wpS_bind (ltAt_ok L hS B' (by (first | lia | omega)) (by (first | lia | omega)) ?_)
          dsimp only
          by_cases hg : kk K (arrOf st') (lo + x' - 1) < kk K (arrOf st') (lo + x')
          · rw [decide_eq_true hg, if_pos rfl]
            exact wpS_pure ⟨B', rfl, hx1, by dsimp only; (first | lia | omega), F', D', hq, hle⟩
          · rw [decide_eq_false hg, if_neg (by decide)]
            have heq : kk K (arrOf st') (lo + x') = kk K (arrOf st') (lo + x' - 1) := by (first | lia | omega)
            refine wpS_pure ⟨B', F'.up (by (first | lia | omega)), rfl, rfl, fun i j q1 q2 q3 => ?_, fun i q1 q2 => ?_, by dsimp only; (first | lia | omega)⟩
            · by_cases hj : j = lo + x'
              · subst hj
                by_cases hi : i = lo + x'
                · subst hi; exact Int.le_refl _
                · have := D' i (lo + x' - 1) q1 (by (first | lia | omega)) (by (first | lia | omega)); (first | lia | omega)
              · exact D' i j q1 q2 (by (first | lia | omega))
            · dsimp only at q1
              rw [show lo + (x' + 1) - 1 = lo + x' by (first | lia | omega), heq]
              by_cases hi : i = lo + x'
              · subst hi; exact heq
              · exact hq i (by (first | lia | omega)) (by (first | lia | omega))
      · rintro ⟨c1, x', neq⟩ st' ⟨B', F', hc1, hx', D', hq, hle⟩
        dsimp only at hc1 hx' hq hle ⊢
        have hx'' : x' = nrem := by (first | lia | omega)
        rw [← hx'] at F' D' hq hle
        exact ⟨B', hc1, by (first | lia | omega), by (first | lia | omega), F', D', hq, hle⟩
      · rintro ⟨c1, x, neq⟩ st₂ ⟨B₂, hc1, hx1, hx2, F₂, D₂, hq, hle⟩
        dsimp only at hc1 hx1 hx2 F₂ D₂ hq hle ⊢
        subst hc1
        dsimp only
        by_cases hne : neq > 0
        · rw [if_pos hne]
          refine wpS_bind (rev_ok (lo := lo) (hi := lo + x) (K := K) B₂ (by (first | lia | omega)) (by (first | lia | omega)) (Nat.le_refl _) fun st₃ B₃ F₃ hk₃ => ?_)
          have he : ∀ k, kk K (arrOf st₃) k = kk K (arrOf st₂) k := fun k => by
            rw [hk₃ k]; split
            · rw [hq k (by (first | lia | omega)) (by (first | lia | omega)), hq _ (by (first | lia | omega)) (by (first | lia | omega))]
            · rfl
          have D₃ : Dec K (arrOf st₃) lo (lo + x) := fun i j q1 q2 q3 => by rw [he, he]; exact D₂ i j q1 q2 q3
          have F₂ := F₂.trans F₃
          have B₂ := B₃
          refine wpS_bind (rev_ok (lo := lo) (hi := lo + x) (K := K) B₂ (by (first | lia | omega)) (Nat.le_refl _) (Nat.le_refl _) fun st₄ B₄ F₄ hk₄ => ?_)
          have hs₄ : SortedOn K (arrOf st₄) lo (lo + x) := fun i j q1 q2 q3 => by
            rw [hk₄, hk₄, if_pos (by (first | lia | omega)), if_pos (by (first | lia | omega))]
            exact D₃ _ _ (by (first | lia | omega)) (by (first | lia | omega)) (by (first | lia | omega))
          have F₅ := F₂.trans F₄
          refine wpS_bind (wpS_mono (wpS_forRange (I := fun z c st' => st₄ = st' ∧ c = (none, z) ∧ SortedOn K (arrOf st₄) lo (lo + z))
            (Q := fun c st' => st₄ = st' ∧ ∃ n, c = (none, n) ∧ x ≤ n ∧ n ≤ nrem ∧ SortedOn K (arrOf st₄) lo (lo + n)) ?_ ?_ ⟨rfl, rfl, hs₄⟩) ?_)
          · rintro z c st' hz1 hz ⟨rfl, rfl, hs⟩
            dsimp only
            refine wpS_bind (ltAt_ok L hS B₄ (by (first | lia | omega)) (by (first | lia | omega)) ?_)
            dsimp only
            by_cases hl : kk K (arrOf st₄) (lo + z) < kk K (arrOf st₄) (lo + z - 1)
            · rw [decide_eq_true hl, if_pos rfl]
              exact wpS_pure ⟨rfl, z, rfl, hz1, by (first | lia | omega), hs⟩
            · rw [decide_eq_false hl, if_neg (by decide)]
              exact wpS_pure ⟨rfl, rfl, asc_step hs (by (first | lia | omega)) (by (first | lia | omega))⟩
          · rintro c st' ⟨rfl, rfl, hs⟩
            exact ⟨rfl, _, rfl, by (first | lia | omega), by (first | lia | omega), hs⟩
          · rintro c st' ⟨rfl, n', rfl, hn1', hn2', hs⟩
            exact wpS_pure (h n' st₄ B₄ (by (first | lia | omega)) hn2' (F₅.up (by (first | lia | omega))) hs)
        · rw [if_neg hne]
          refine wpS_bind (rev_ok (lo := lo) (hi := lo + x) (K := K) B₂ (by (first | lia | omega)) (Nat.le_refl _) (Nat.le_refl _) fun st₄ B₄ F₄ hk₄ => ?_)
          have hs₄ : SortedOn K (arrOf st₄) lo (lo + x) := fun i j q1 q2 q3 => by
            rw [hk₄, hk₄, if_pos (by (first | lia | omega)), if_pos (by (first | lia | omega))]
            exact D₂ _ _ (by (first | lia | omega)) (by (first | lia | omega)) (by (first | lia | omega))
          have F₅ := F₂.trans F₄
          refine wpS_bind (wpS_mono (wpS_forRange (I := fun z c st' => st₄ = st' ∧ c = (none, z) ∧ SortedOn K (arrOf st₄) lo (lo + z))
            (Q := fun c st' => st₄ = st' ∧ ∃ n, c = (none, n) ∧ x ≤ n ∧ n ≤ nrem ∧ SortedOn K (arrOf st₄) lo (lo + n)) ?_ ?_ ⟨rfl, rfl, hs₄⟩) ?_)
          · rintro z c st' hz1 hz ⟨rfl, rfl, hs⟩
            dsimp only
            refine wpS_bind (ltAt_ok L hS B₄ (by (first | lia | omega)) (by (first | lia | omega)) ?_)
            dsimp only
            by_cases hl : kk K (arrOf st₄) (lo + z) < kk K (arrOf st₄) (lo + z - 1)
            · rw [decide_eq_true hl, if_pos rfl]
              exact wpS_pure ⟨rfl, z, rfl, hz1, by (first | lia | omega), hs⟩
            · rw [decide_eq_false hl, if_neg (by decide)]
              exact wpS_pure ⟨rfl, rfl, asc_step hs (by (first | lia | omega)) (by (first | lia | omega))⟩
          · rintro c st' ⟨rfl, rfl, hs⟩
            exact ⟨rfl, _, rfl, by (first | lia | omega), by (first | lia | omega), hs⟩
          · rintro c st' ⟨rfl, n', rfl, hn1', hn2', hs⟩
            exact wpS_pure (h n' st₄ B₄ (by (first | lia | omega)) hn2' (F₅.up (by (first | lia | omega))) hs)
    · rw [if_neg c2]
      have hn1' : n = 1 := by (first | lia | omega)
      have D : Dec K (arrOf st) lo (lo + (n + 1)) := dec_of hs (by rw [hn1']; exact Int.le_refl _) hn1 hlt
      have B₁ := B
      have F₁ : Frm lo (lo + n) st st := .refl _ _ _
      refine wpS_bind (wpS_lift (wpAny_rule ⟨rfl, ?_⟩))
      refine wpS_bind (wpS_mono (wpS_forRange (I := fun x c st' => SB κ a₀ st' ∧ Frm lo (lo + x) st st' ∧ c.1 = none ∧ c.2.1 = x ∧ Dec K (arrOf st') lo (lo + x) ∧ (∀ i, lo + x - (c.2.2 + 1) ≤ i → i < lo + x → kk K (arrOf st') i = kk K (arrOf st') (lo + x - 1)) ∧ c.2.2 + 1 ≤ x)
        (Q := fun c st' => SB κ a₀ st' ∧ c.1 = none ∧ n + 1 ≤ c.2.1 ∧ c.2.1 ≤ nrem ∧ Frm lo (lo + c.2.1) st st' ∧ Dec K (arrOf st') lo (lo + c.2.1) ∧ (∀ i, lo + c.2.1 - (c.2.2 + 1) ≤ i → i < lo + c.2.1 → kk K (arrOf st') i = kk K (arrOf st') (lo + c.2.1 - 1)) ∧ c.2.2 + 1 ≤ c.2.1) ?_ ?_
        ⟨B₁, F₁.up (by (first | lia | omega)), rfl, rfl, D, fun i q1 q2 => by dsimp only at q1; rw [show i = lo + (n + 1) - 1 by (first | lia | omega)], by dsimp only; (first | lia | omega)⟩) ?_)
      · rintro x ⟨c1, x', neq⟩ st' hx1 hx ⟨B', F', hc1, hx', D', hq, hle⟩
        dsimp only at hc1 hx' hq hle ⊢
        subst hc1; subst hx'
        refine wpS_bind (ltAt_ok L hS B' (by (first | lia | omega)) (by (first | lia | omega)) ?_)
        dsimp only
        by_cases hl : kk K (arrOf st') (lo + x') < kk K (arrOf st') (lo + x' - 1)
        · rw [decide_eq_true hl, if_pos rfl]
          have ext : ∀ st'', (∀ k, kk K (arrOf st'') k = kk K (arrOf st') k) → Dec K (arrOf st'') lo (lo + (x' + 1)) := fun st'' he i j q1 q2 q3 => by
            rw [he, he]
            by_cases hj : j = lo + x'
            · subst hj
              by_cases hi : i = lo + x'
              · subst hi; exact Int.le_refl _
              · have := D' i (lo + x' - 1) q1 (by (first | lia | omega)) (by (first | lia | omega)); (first | lia | omega)
            · exact D' i j q1 q2 (by (first | lia | omega))
          by_cases hne : neq > 0
          · rw [if_pos hne]
            refine wpS_bind (rev_ok (lo := lo) (hi := lo + x') (K := K) B' (by (first | lia | omega)) (by (first | lia | omega)) (Nat.le_refl _) fun st'' B'' F'' hk'' => ?_)
            have he : ∀ k, kk K (arrOf st'') k = kk K (arrOf st') k := fun k => by
              rw [hk'' k]; split
              · rw [hq k (by (first | lia | omega)) (by (first | lia | omega)), hq _ (by (first | lia | omega)) (by (first | lia | omega))]
              · rfl
            exact wpS_pure ⟨B'', (F'.trans F'').up (by (first | lia | omega)), rfl, rfl, ext st'' he, fun i q1 q2 => by dsimp only at q1; rw [show i = lo + (x' + 1) - 1 by (first | lia | omega)], by dsimp only; (first | lia | omega)⟩
          · rw [if_neg hne]
            exact wpS_pure ⟨B', F'.up (by (first | lia | omega)), rfl, rfl, ext st' (fun _ => rfl), fun i q1 q2 => by dsimp only at q1; rw [show i = lo + (x' + 1) - 1 by (first | lia | omega)], by dsimp only; (first | lia | omega)⟩
        · rw [decide_eq_false hl, if_neg (by decide)]
          refine wpS_bind (ltAt_ok L hS B' (by (first | lia | omega)) (by (first | lia | omega)) ?_)
          dsimp only
          by_cases hg : kk K (arrOf st') (lo + x' - 1) < kk K (arrOf st') (lo + x')
          · rw [decide_eq_true hg, if_pos rfl]
            exact wpS_pure ⟨B', rfl, hx1, by dsimp only; (first | lia | omega), F', D', hq, hle⟩
          · rw [decide_eq_false hg, if_neg (by decide)]
            have heq : kk K (arrOf st') (lo + x') = kk K (arrOf st') (lo + x' - 1) := by (first | lia | omega)
            refine wpS_pure ⟨B', F'.up (by (first | lia | omega)), rfl, rfl, fun i j q1 q2 q3 => ?_, fun i q1 q2 => ?_, by dsimp only; (first | lia | omega)⟩
            · by_cases hj : j = lo + x'
              · subst hj
                by_cases hi : i = lo + x'
                · subst hi; exact Int.le_refl _
                · have := D' i (lo + x' - 1) q1 (by (first | lia | omega)) (by (first | lia | omega)); (first | lia | omega)
              · exact D' i j q1 q2 (by (first | lia | omega))
            · dsimp only at q1
              rw [show lo + (x' + 1) - 1 = lo + x' by (first | lia | omega), heq]
              by_cases hi : i = lo + x'
              · subst hi; exact heq
              · exact hq i (by (first | lia | omega)) (by (first | lia | omega))
      · rintro ⟨c1, x', neq⟩ st' ⟨B', F', hc1, hx', D', hq, hle⟩
        dsimp only at hc1 hx' hq hle ⊢
        have hx'' : x' = nrem := by (first | lia | omega)
        rw [← hx'] at F' D' hq hle
        exact ⟨B', hc1, by (first | lia | omega), by (first | lia | omega), F', D', hq, hle⟩
      · rintro ⟨c1, x, neq⟩ st₂ ⟨B₂, hc1, hx1, hx2, F₂, D₂, hq, hle⟩
        dsimp only at hc1 hx1 hx2 F₂ D₂ hq hle ⊢
        subst hc1
        dsimp only
        by_cases hne : neq > 0
        · rw [if_pos hne]
          refine wpS_bind (rev_ok (lo := lo) (hi := lo + x) (K := K) B₂ (by (first | lia | omega)) (by (first | lia | omega)) (Nat.le_refl _) fun st₃ B₃ F₃ hk₃ => ?_)
          have he : ∀ k, kk K (arrOf st₃) k = kk K (arrOf st₂) k := fun k => by
            rw [hk₃ k]; split
            · rw [hq k (by (first | lia | omega)) (by (first | lia | omega)), hq _ (by (first | lia | omega)) (by (first | lia | omega))]
            · rfl
          have D₃ : Dec K (arrOf st₃) lo (lo + x) := fun i j q1 q2 q3 => by rw [he, he]; exact D₂ i j q1 q2 q3
          have F₂ := F₂.trans F₃
          have B₂ := B₃
          refine wpS_bind (rev_ok (lo := lo) (hi := lo + x) (K := K) B₂ (by (first | lia | omega)) (Nat.le_refl _) (Nat.le_refl _) fun st₄ B₄ F₄ hk₄ => ?_)
          have hs₄ : SortedOn K (arrOf st₄) lo (lo + x) := fun i j q1 q2 q3 => by
            rw [hk₄, hk₄, if_pos (by (first | lia | omega)), if_pos (by (first | lia | omega))]
            exact D₃ _ _ (by (first | lia | omega)) (by (first | lia | omega)) (by (first | lia | omega))
          have F₅ := F₂.trans F₄
          refine wpS_bind (wpS_mono (wpS_forRange (I := fun z c st' => st₄ = st' ∧ c = (none, z) ∧ SortedOn K (arrOf st₄) lo (lo + z))
            (Q := fun c st' => st₄ = st' ∧ ∃ n, c = (none, n) ∧ x ≤ n ∧ n ≤ nrem ∧ SortedOn K (arrOf st₄) lo (lo + n)) ?_ ?_ ⟨rfl, rfl, hs₄⟩) ?_)
          · rintro z c st' hz1 hz ⟨rfl, rfl, hs⟩
            dsimp only
            refine wpS_bind (ltAt_ok L hS B₄ (by (first | lia | omega)) (by (first | lia | omega)) ?_)
            dsimp only
            by_cases hl : kk K (arrOf st₄) (lo + z) < kk K (arrOf st₄) (lo + z - 1)
            · rw [decide_eq_true hl, if_pos rfl]
              exact wpS_pure ⟨rfl, z, rfl, hz1, by (first | lia | omega), hs⟩
            · rw [decide_eq_false hl, if_neg (by decide)]
              exact wpS_pure ⟨rfl, rfl, asc_step hs (by (first | lia | omega)) (by (first | lia | omega))⟩
          · rintro c st' ⟨rfl, rfl, hs⟩
            exact ⟨rfl, _, rfl, by (first | lia | omega), by (first | lia | omega), hs⟩
          · rintro c st' ⟨rfl, n', rfl, hn1', hn2', hs⟩
            exact wpS_pure (h n' st₄ B₄ (by (first | lia | omega)) hn2' (F₅.up (by (first | lia | omega))) hs)
        · rw [if_neg hne]
          refine wpS_bind (rev_ok (lo := lo) (hi := lo + x) (K := K) B₂ (by (first | lia | omega)) (Nat.le_refl _) (Nat.le_refl _) fun st₄ B₄ F₄ hk₄ => ?_)
          have hs₄ : SortedOn K (arrOf st₄) lo (lo + x) := fun i j q1 q2 q3 => by
            rw [hk₄, hk₄, if_pos (by (first | lia | omega)), if_pos (by (first | lia | omega))]
            exact D₂ _ _ (by (first | lia | omega)) (by (first | lia | omega)) (by (first | lia | omega))
          have F₅ := F₂.trans F₄
          refine wpS_bind (wpS_mono (wpS_forRange (I := fun z c st' => st₄ = st' ∧ c = (none, z) ∧ SortedOn K (arrOf st₄) lo (lo + z))
            (Q := fun c st' => st₄ = st' ∧ ∃ n, c = (none, n) ∧ x ≤ n ∧ n ≤ nrem ∧ SortedOn K (arrOf st₄) lo (lo + n)) ?_ ?_ ⟨rfl, rfl, hs₄⟩) ?_)
          · rintro z c st' hz1 hz ⟨rfl, rfl, hs⟩
            dsimp only
            refine wpS_bind (ltAt_ok L hS B₄ (by (first | lia | omega)) (by (first | lia | omega)) ?_)
            dsimp only
            by_cases hl : kk K (arrOf st₄) (lo + z) < kk K (arrOf st₄) (lo + z - 1)
            · rw [decide_eq_true hl, if_pos rfl]
              exact wpS_pure ⟨rfl, z, rfl, hz1, by (first | lia | omega), hs⟩
            · rw [decide_eq_false hl, if_neg (by decide)]
              exact wpS_pure ⟨rfl, rfl, asc_step hs (by (first | lia | omega)) (by (first | lia | omega))⟩
          · rintro c st' ⟨rfl, rfl, hs⟩
            exact ⟨rfl, _, rfl, by (first | lia | omega), by (first | lia | omega), hs⟩
          · rintro c st' ⟨rfl, n', rfl, hn1', hn2', hs⟩
            exact wpS_pure (h n' st₄ B₄ (by (first | lia | omega)) hn2' (F₅.up (by (first | lia | omega))) hs)
end
end Mine

set_option autoImplicit false
set_option maxHeartbeats 4000000
set_option maxRecDepth 100000
namespace Mine
open PySem PyProof.Rows

section
variable {M : Model} {A : Around} {E : Value → Shared → Prop} {s : Shared} {κ : SortKind} {S : KRow → Prop} {K : KRow → Int} {a₀ : Array KRow}
/-- the runs of a list of pending ones, side by side from lo to hi -/
def Runs (K : KRow → Int) (a : Array KRow) : List (Nat × Nat × Nat) → Nat → Nat → Prop
  | [], lo, hi => lo = hi
  | (p, n, _) :: r, lo, hi => p = lo ∧ 1 ≤ n ∧ SortedOn K a lo (lo + n) ∧ Runs K a r (lo + n) hi
theorem Runs.le {a : Array KRow} : ∀ {l : List (Nat × Nat × Nat)} {lo hi : Nat}, Runs K a l lo hi → lo + l.length ≤ hi
  | [], lo, hi, h => by have : lo = hi := h; simp; (first | lia | omega)
  | (p, n, _) :: r, lo, hi, ⟨_, h2, _, h4⟩ => by have := h4.le; simp; (first | lia | omega)
theorem SortedOn.same {a b : Array KRow} {lo hi : Nat} (h : SortedOn K a lo hi) (he : ∀ j, lo ≤ j → j < hi → b[j]? = a[j]?) : SortedOn K b lo hi := fun i j h1 h2 h3 => by
  have e1 : kk K b i = kk K a i := by unfold kk; rw [he i h1 (by (first | lia | omega))]
  have e2 : kk K b j = kk K a j := by unfold kk; rw [he j (by (first | lia | omega)) h3]
  rw [e1, e2]; exact h i j h1 h2 h3
theorem Runs.same {a b : Array KRow} : ∀ {l : List (Nat × Nat × Nat)} {lo hi : Nat}, Runs K a l lo hi → (∀ j, lo ≤ j → j < hi → b[j]? = a[j]?) → Runs K b l lo hi
  | [], _, _, h, _ => h
  | (p, n, _) :: r, lo, hi, ⟨h1, h2, h3, h4⟩, he => by
    have := h4.le
    exact ⟨h1, h2, h3.same fun j q1 q2 => he j q1 (by (first | lia | omega)), h4.same fun j q1 q2 => he j (by (first | lia | omega)) q2⟩
theorem Runs.append {a : Array KRow} : ∀ {l₁ l₂ : List (Nat × Nat × Nat)} {lo hi : Nat}, Runs K a (l₁ ++ l₂) lo hi ↔ ∃ mid, Runs K a l₁ lo mid ∧ Runs K a l₂ mid hi
  | [], l₂, lo, hi => ⟨fun h => ⟨lo, rfl, h⟩, fun ⟨mid, h1, h2⟩ => by have : lo = mid := h1; subst this; exact h2⟩
  | (p, n, w) :: r, l₂, lo, hi => by
    have ih := @Runs.append a r l₂ (lo + n) hi
    constructor
    · rintro ⟨h1, h2, h3, h4⟩
      obtain ⟨mid, h5, h6⟩ := ih.mp h4
      exact ⟨mid, ⟨h1, h2, h3, h5⟩, h6⟩
    · rintro ⟨mid, ⟨h1, h2, h3, h5⟩, h6⟩
      exact ⟨h1, h2, h3, ih.mpr ⟨mid, h5, h6⟩⟩
theorem split2 {α : Type} : ∀ {l : List α} {i : Nat} {x y : α}, l[i]? = some x → l[i + 1]? = some y → l = l.take i ++ x :: y :: l.drop (i + 2)
  | [], _, _, _, h, _ => by simp at h
  | [_], 0, _, _, _, h => by simp at h
  | a :: b :: l, 0, x, y, h1, h2 => by simp at h1 h2; subst h1; subst h2; simp
  | a :: l, i + 1, x, y, h1, h2 => by
    have := split2 (l := l) (i := i) (by simpa using h1) (by simpa using h2)
    simp only [List.take_succ_cons, List.cons_append, List.drop_succ_cons]
    rw [← this]
theorem pend_list {p : Array (Nat × Nat × Nat)} {i sa na sb nb pw pw' : Nat} (p1 : p[i]? = some (sa, na, pw)) (p2 : p[i + 1]? = some (sb, nb, pw')) :
    ((p.setIfInBounds i (sa, na + nb, pw)).eraseIdxIfInBounds (i + 1)).toList = p.toList.take i ++ (sa, na + nb, pw) :: p.toList.drop (i + 2) := by
  have hi : i + 1 < p.size := by rw [Array.getElem?_eq_some_iff] at p2; exact p2.1
  have e : ((p.setIfInBounds i (sa, na + nb, pw)).eraseIdxIfInBounds (i + 1)).toList = (p.toList.set i (sa, na + nb, pw)).eraseIdx (i + 1) := by simp
  rw [e]
  have h := split2 (l := p.toList) (i := i) (by simpa using p1) (by simpa using p2)
  have hl : (p.toList.take i).length = i := by simp; (first | lia | omega)
  rw [h]
  rw [List.set_append_right _ _ (by (first | lia | omega)), hl, Nat.sub_self, List.set_cons_zero, List.eraseIdx_append_of_length_le (by (first | lia | omega)), hl, show i + 1 - i = 1 by (first | lia | omega)]
  have e2 : List.take i (p.toList.take i ++ (sa, na, pw) :: (sb, nb, pw') :: p.toList.drop (i + 2)) = p.toList.take i := by
    rw [List.take_append_of_le_length (by (first | lia | omega)), List.take_take, Nat.min_self]
  have e3 : List.drop (i + 2) (p.toList.take i ++ (sa, na, pw) :: (sb, nb, pw') :: p.toList.drop (i + 2)) = p.toList.drop (i + 2) := by
    rw [List.drop_append, hl, show i + 2 - i = 2 by (first | lia | omega), List.drop_of_length_le (by (first | lia | omega))]; rfl
  rw [e2, e3]; rfl

structure RS (κ : SortKind) (K : KRow → Int) (a₀ : Array KRow) (lo : Nat) (st : SortSt) : Prop where
  b : SB κ a₀ st
  runs : Runs K (arrOf st) (pendingOf st).toList 0 lo
/-- a merge keeps the runs -/
theorem merge_runs {st : SortSt} {i lo : Nat} {Q : Bool → SortSt → Prop} (L : LtOk M A E s κ S K) (hS : AllS S a₀) (R : RS κ K a₀ lo st) (hlo : lo ≤ a₀.size) (hi : i + 1 < (pendingOf st).size)
    (h : ∀ st', RS κ K a₀ lo st' → (pendingOf st').size + 1 = (pendingOf st).size → (∀ j, lo ≤ j → (arrOf st')[j]? = (arrOf st)[j]?) → Q true st') : PyProof.Rows.wpS M A E s (mergeAt' i) Q st := by
  obtain ⟨⟨sa, na, pw⟩, p1⟩ : ∃ x, (pendingOf st)[i]? = some x := ⟨_, getElem?_pos (pendingOf st) i (by (first | lia | omega))⟩
  obtain ⟨⟨sb, nb, pw'⟩, p2⟩ : ∃ x, (pendingOf st)[i + 1]? = some x := ⟨_, getElem?_pos (pendingOf st) (i + 1) hi⟩
  have hl := split2 (l := (pendingOf st).toList) (i := i) (by simpa using p1) (by simpa using p2)
  have hR := R.runs
  rw [hl] at hR
  obtain ⟨mid, r1, r2, r3, r4, r5, r6, r7, r8⟩ := Runs.append.mp hR
  subst r2
  subst r5
  have hle := r8.le
  have hle1 := r1.le
  refine mergeAt_ok L hS R.b p1 p2 r3 r6 rfl (by (first | lia | omega)) r4 r7 fun st' B' hp hout hs => ?_
  refine h st' ⟨B', ?_⟩ ?_ fun j hj => hout j (by (first | lia | omega))
  · rw [hp, pend_list p1 p2]
    refine Runs.append.mpr ⟨sa, r1.same fun j _ q2 => hout j (.inl q2), rfl, by (first | lia | omega), ?_, ?_⟩
    · rw [← Nat.add_assoc]; exact hs
    · rw [← Nat.add_assoc]; exact r8.same fun j q1 _ => hout j (by (first | lia | omega))
  · have e := congrArg List.length (pend_list p1 p2)
    rw [← hp] at e
    simp only [Array.length_toList, List.length_append, List.length_cons, List.length_take, List.length_drop] at e
    (first | lia | omega)
end
end Mine

set_option autoImplicit false
set_option maxHeartbeats 4000000
set_option maxRecDepth 100000
namespace Mine
open PySem PyProof.Rows

section
variable {M : Model} {A : Around} {E : Value → Shared → Prop} {s : Shared} {κ : SortKind} {S : KRow → Prop} {K : KRow → Int} {a₀ : Array KRow}
theorem Runs.modify {a : Array KRow} (f : Nat × Nat × Nat → Nat × Nat × Nat) (hf : ∀ p n w, ∃ w', f (p, n, w) = (p, n, w')) : ∀ {l : List (Nat × Nat × Nat)} {lo hi : Nat} (i : Nat), Runs K a l lo hi → Runs K a (l.modify i f) lo hi
  | [], _, _, 0, h => by simpa using h
  | [], _, _, _ + 1, h => by simpa using h
  | (p, n, w) :: r, lo, hi, 0, h => by
    obtain ⟨w', e⟩ := hf p n w
    rw [List.modify_zero_cons, e]
    exact h
  | (p, n, w) :: r, lo, hi, i + 1, ⟨h1, h2, h3, h4⟩ => by
    rw [List.modify_succ_cons]
    exact ⟨h1, h2, h3, Runs.modify f hf i h4⟩
theorem rs_push {st : SortSt} {lo n : Nat} (R : RS κ K a₀ lo st) (hn : 1 ≤ n) (hs : SortedOn K (arrOf st) lo (lo + n)) : RS κ K a₀ (lo + n) (setPending st ((pendingOf st).push (lo, n, 0))) := by
  refine ⟨⟨R.b.perm, R.b.kind, R.b.failed⟩, ?_⟩
  show Runs K (arrOf st) ((pendingOf st).push (lo, n, 0)).toList 0 (lo + n)
  rw [Array.toList_push]
  exact Runs.append.mpr ⟨lo, R.runs, rfl, hn, hs, rfl⟩
theorem rs_mod {st : SortSt} {lo pw : Nat} (R : RS κ K a₀ lo st) : RS κ K a₀ lo (setPending st ((pendingOf st).modify ((pendingOf st).size - 1) fun (x : Nat × Nat × Nat) => (x.1, x.2.1, pw))) := by
  refine ⟨⟨R.b.perm, R.b.kind, R.b.failed⟩, ?_⟩
  show Runs K (arrOf st) ((pendingOf st).modify ((pendingOf st).size - 1) _).toList 0 lo
  rw [Array.toList_modify]
  exact Runs.modify _ (fun p n w => ⟨pw, rfl⟩) _ R.runs
theorem rs_frame {st st' : SortSt} {lo hi : Nat} (R : RS κ K a₀ lo st) (B' : SB κ a₀ st') (F : Frm lo hi st st') : RS κ K a₀ lo st' := ⟨B', by rw [F.pend]; exact R.runs.same fun j _ q => F.out j (.inl q)⟩

theorem ite_le (c : Prop) [Decidable c] (m : Nat) : (if c then m - 1 else m) ≤ m := by split <;> (first | lia | omega)
theorem sortRuns_ok {st : SortSt} {Q : Unit → SortSt → Prop} (L : LtOk M A E s κ S K) (hS : AllS S a₀) (B : SB κ a₀ st) (hp : pendingOf st = #[]) (h2 : 2 ≤ a₀.size)
    (h : ∀ st', SB κ a₀ st' → SortedOn K (arrOf st') 0 a₀.size → Q () st') : PyProof.Rows.wpS M A E s sortRuns' Q st := by
  rw [sortRuns'_eq]
  refine wpS_bind (wpS_get ?_)
  dsimp only
  simp only [B.size]
  have R₀ : RS κ K a₀ 0 st := ⟨B, by rw [hp]; rfl⟩
  refine wpS_bind (wpS_mono (wpS_forRange (I := fun x c st' => c.1 = none ∧ RS κ K a₀ c.2 st' ∧ c.2 ≤ a₀.size ∧ x ≤ c.2) (Q := fun c st' => c.1 = none ∧ RS κ K a₀ a₀.size st') ?step ?fin ⟨rfl, R₀, by dsimp only; (first | lia | omega), by dsimp only; (first | lia | omega)⟩) ?post)
  case fin =>
    rintro ⟨c1, lo⟩ st' ⟨hc, R', h3, h4⟩
    dsimp only at hc R' h3 h4 ⊢
    have : lo = a₀.size := by (first | lia | omega)
    subst this
    exact ⟨hc, R'⟩
  case step =>
    rintro x ⟨c1, lo⟩ st' _ hx ⟨hc, R', h3, h4⟩
    dsimp only at hc R' h3 h4 ⊢
    subst hc
    by_cases hge : lo ≥ a₀.size
    · rw [if_pos hge]
      have : lo = a₀.size := by (first | lia | omega)
      subst this
      exact wpS_pure ⟨rfl, R'⟩
    rw [if_neg hge]
    refine wpS_bind (countRun_ok L hS R'.b (by (first | lia | omega)) (by (first | lia | omega)) fun n st₁ B₁ n1 n2 F₁ hs₁ => ?_)
    have R₁ := rs_frame R' B₁ F₁
    dsimp only
    by_cases hm : n < minRun' a₀.size a₀.size 0
    · rw [if_pos hm]
      refine wpS_bind (wpS_lift (wpAny_rule ⟨rfl, ?_⟩))
      refine wpS_bind (binarySort_ok L hS B₁ (by (first | lia | omega)) (by (first | lia | omega)) hs₁ fun st₂ B₂ F₂ hs₂ => ?_)
      have R₂ := rs_frame R₁ B₂ F₂
      simp only [Bool.not_true, Bool.false_eq_true, if_false]
      generalize hfo : min (a₀.size - lo) (minRun' a₀.size a₀.size 0) = fo at hs₂ F₂ ⊢
      have hfo1 : 1 ≤ fo := by (first | lia | omega)
      have hfo2 : lo + fo ≤ a₀.size := by (first | lia | omega)
      refine wpS_bind (wpS_get ?_)
      cases hb : (pendingOf st₂).back? with
      | none =>
        dsimp only
        exact wpS_bind (wpS_modify (wpS_pure ⟨rfl, rs_push R₂ (by (first | lia | omega)) hs₂, by dsimp only; (first | lia | omega), by dsimp only; (first | lia | omega)⟩))
      | some q =>
        obtain ⟨s1, n1, w1⟩ := q
        dsimp only
        refine wpS_bind (wpS_mono (wpS_forRange (I := fun x c st'' => c = (none, ()) ∧ RS κ K a₀ lo st'' ∧ SortedOn K (arrOf st'') lo (lo + fo)) (Q := fun c st'' => c = (none, ()) ∧ RS κ K a₀ lo st'' ∧ SortedOn K (arrOf st'') lo (lo + fo)) ?_ (fun _ _ hh => hh) ⟨rfl, R₂, hs₂⟩) ?_)
        · rintro y c st'' _ _ ⟨rfl, R'', hs''⟩
          refine wpS_bind (wpS_get ?_)
          by_cases hz : (pendingOf st'').size > 1
          · rw [if_pos hz]
            obtain ⟨⟨q1, q2, older⟩, hq⟩ : ∃ x, (pendingOf st'')[(pendingOf st'').size - 2]? = some x := ⟨_, getElem?_pos (pendingOf st'') _ (by (first | lia | omega))⟩
            rw [hq]
            dsimp only
            by_cases ho : older ≤ power' a₀.size (2 * s1 + n1) (2 * s1 + n1 + n1 + fo) a₀.size
            · rw [if_pos ho]; exact wpS_pure ⟨rfl, R'', hs''⟩
            · rw [if_neg ho]
              refine wpS_bind (merge_runs L hS R'' (by (first | lia | omega)) (by (first | lia | omega)) fun st₃ R₃ _ hk => ?_)
              simp only [Bool.not_true, Bool.false_eq_true, if_false]
              exact wpS_pure ⟨rfl, R₃, hs''.same fun j j1 _ => hk j j1⟩
          · rw [if_neg hz]
            exact wpS_pure ⟨rfl, R'', hs''⟩
        · rintro c st₃ ⟨rfl, R₃, hs₃⟩
          dsimp only
          refine wpS_bind (wpS_modify ?_)
          refine wpS_bind (wpS_modify (wpS_pure ⟨rfl, rs_push (rs_mod R₃) (by (first | lia | omega)) hs₃, by dsimp only; (first | lia | omega), by dsimp only; (first | lia | omega)⟩))
    · rw [if_neg hm]
      refine wpS_bind (wpS_get ?_)
      cases hb : (pendingOf st₁).back? with
      | none =>
        dsimp only
        exact wpS_bind (wpS_modify (wpS_pure ⟨rfl, rs_push R₁ (by (first | lia | omega)) hs₁, by dsimp only; (first | lia | omega), by dsimp only; (first | lia | omega)⟩))
      | some q =>
        obtain ⟨s1, n1, w1⟩ := q
        dsimp only
        refine wpS_bind (wpS_mono (wpS_forRange (I := fun x c st'' => c = (none, ()) ∧ RS κ K a₀ lo st'' ∧ SortedOn K (arrOf st'') lo (lo + n)) (Q := fun c st'' => c = (none, ()) ∧ RS κ K a₀ lo st'' ∧ SortedOn K (arrOf st'') lo (lo + n)) ?_ (fun _ _ hh => hh) ⟨rfl, R₁, hs₁⟩) ?_)
        · rintro y c st'' _ _ ⟨rfl, R'', hs''⟩
          refine wpS_bind (wpS_get ?_)
          by_cases hz : (pendingOf st'').size > 1
          · rw [if_pos hz]
            obtain ⟨⟨q1, q2, older⟩, hq⟩ : ∃ x, (pendingOf st'')[(pendingOf st'').size - 2]? = some x := ⟨_, getElem?_pos (pendingOf st'') _ (by (first | lia | omega))⟩
            rw [hq]
            dsimp only
            by_cases ho : older ≤ power' a₀.size (2 * s1 + n1) (2 * s1 + n1 + n1 + n) a₀.size
            · rw [if_pos ho]; exact wpS_pure ⟨rfl, R'', hs''⟩
            · rw [if_neg ho]
              refine wpS_bind (merge_runs L hS R'' (by (first | lia | omega)) (by (first | lia | omega)) fun st₃ R₃ _ hk => ?_)
              simp only [Bool.not_true, Bool.false_eq_true, if_false]
              exact wpS_pure ⟨rfl, R₃, hs''.same fun j j1 _ => hk j j1⟩
          · rw [if_neg hz]
            exact wpS_pure ⟨rfl, R'', hs''⟩
        · rintro c st₃ ⟨rfl, R₃, hs₃⟩
          dsimp only
          refine wpS_bind (wpS_modify ?_)
          refine wpS_bind (wpS_modify (wpS_pure ⟨rfl, rs_push (rs_mod R₃) (by (first | lia | omega)) hs₃, by dsimp only; (first | lia | omega), by dsimp only; (first | lia | omega)⟩))
  case post =>
    rintro ⟨c1, lo⟩ st' ⟨hc, R'⟩
    dsimp only at hc ⊢
    subst hc
    dsimp only
    have hle := R'.runs.le
    refine wpS_bind (wpS_mono (wpS_forRange (I := fun x c st'' => c = (none, ()) ∧ RS κ K a₀ a₀.size st'' ∧ (pendingOf st'').size + x ≤ a₀.size) (Q := fun c st'' => c = (none, ()) ∧ RS κ K a₀ a₀.size st'' ∧ (pendingOf st'').size ≤ 1) ?_ ?_ ⟨rfl, R', by simp at hle; (first | lia | omega)⟩) ?_)
    · rintro y c st'' _ hy ⟨rfl, R'', hz⟩
      refine wpS_bind (wpS_get ?_)
      by_cases hsz : (pendingOf st'').size ≤ 1
      · rw [if_pos hsz]; exact wpS_pure ⟨rfl, R'', hsz⟩
      · rw [if_neg hsz]
        refine wpS_bind (merge_runs L hS R'' (Nat.le_refl _) (Nat.lt_of_le_of_lt (Nat.add_le_add_right (ite_le _ _) 1) (show (pendingOf st'').size - 2 + 1 < (pendingOf st'').size by (first | lia | omega))) fun st₃ R₃ hz₃ _ => ?_)
        simp only [Bool.not_true, Bool.false_eq_true, if_false]
        exact wpS_pure ⟨rfl, R₃, by (first | lia | omega)⟩
    · rintro c st'' ⟨rfl, R'', hz⟩
      exact ⟨rfl, R'', by (first | lia | omega)⟩
    · rintro c st'' ⟨rfl, R'', hz⟩
      refine wpS_pure (h st'' R''.b ?_)
      have hr := R''.runs
      match hl : (pendingOf st'').toList, hr with
      | [], hr => have : 0 = a₀.size := hr
                  (first | lia | omega)
      | [(p, n, w)], hr =>
        obtain ⟨_, _, r3, r4⟩ := hr
        have : 0 + n = a₀.size := r4
        rw [this] at r3
        exact r3
      | _ :: _ :: _, _ => have := congrArg List.length hl; simp at this; (first | lia | omega)
end
end Mine

set_option autoImplicit false
set_option maxRecDepth 100000
namespace Mine
open PySem PyProof.Rows

/-! ## sorted lists of abstract rows -/
abbrev Row := List Nat × Int
structure SWO (lo : Row → Row → Bool) : Prop where
  irrefl : ∀ a, lo a a = false
  trans : ∀ a b c, lo a b = true → lo b c = true → lo a c = true
  neg : ∀ a b c, lo a c = true → lo a b = true ∨ lo b c = true
def rank (lo : Row → Row → Bool) (rs : List Row) (r : Row) : Nat := (rs.filter fun q => lo q r).length
theorem filter_le {p q : Row → Bool} : ∀ (l : List Row), (∀ x ∈ l, p x = true → q x = true) → (l.filter p).length ≤ (l.filter q).length
  | [], _ => by simp
  | a :: l, h => by
    have ih := filter_le l fun x hx => h x (List.mem_cons_of_mem _ hx)
    have ha := h a (List.mem_cons_self ..)
    rw [List.filter_cons, List.filter_cons]
    by_cases hp : p a = true
    · rw [if_pos hp, if_pos (ha hp)]; simp; omega
    · rw [if_neg hp]; split <;> simp <;> omega
theorem filter_lt {p q : Row → Bool} : ∀ (l : List Row), (∀ x ∈ l, p x = true → q x = true) → (∃ x ∈ l, p x = false ∧ q x = true) → (l.filter p).length < (l.filter q).length
  | [], _, ⟨_, hx, _⟩ => by cases hx
  | a :: l, h, ⟨x, hx, h1, h2⟩ => by
    have hl := fun x hx => h x (List.mem_cons_of_mem a hx)
    have ha := h a (List.mem_cons_self ..)
    rw [List.filter_cons, List.filter_cons]
    rcases List.mem_cons.mp hx with rfl | hx
    · have ih := filter_le l hl
      rw [h1, h2]; simp; omega
    · have ih := filter_lt l hl ⟨x, hx, h1, h2⟩
      by_cases hp : p a = true
      · rw [if_pos hp, if_pos (ha hp)]; simp; omega
      · rw [if_neg hp]; split <;> simp <;> omega
theorem rank_lt {lo : Row → Row → Bool} (W : SWO lo) {rs : List Row} {a b : Row} (ha : a ∈ rs) : lo a b = true ↔ rank lo rs a < rank lo rs b := by
  constructor
  · intro h
    exact filter_lt rs (fun x _ hx => W.trans x a b hx h) ⟨a, ha, W.irrefl a, h⟩
  · intro h
    cases hc : lo a b with
    | true => rfl
    | false =>
      have : rank lo rs b ≤ rank lo rs a := filter_le rs fun x _ hx => by
        rcases W.neg x a b hx with q | q
        · exact q
        · rw [hc] at q; cases q
      omega

section
variable {M : Model} {A : Around} {E : Value → Shared → Prop} {s : Shared} {κ : SortKind}
open Classical in
noncomputable def pick (J : KRow → Row → Prop) (x : KRow) : Row := if h : ∃ r, J x r then Classical.choose h else ([], 0)
theorem pick_eq {J : KRow → Row → Prop} (hinj : ∀ x r r', J x r → J x r' → r = r') {x : KRow} {r : Row} (h : J x r) : pick J x = r := by
  unfold pick
  rw [dif_pos ⟨r, h⟩]
  exact hinj x _ _ (Classical.choose_spec ⟨r, h⟩) h
theorem pick_map {J : KRow → Row → Prop} (hinj : ∀ x r r', J x r → J x r' → r = r') : ∀ {L : List KRow} {rs : List Row}, Paired J L rs → rs = L.map (pick J) ∧ ∀ x ∈ L, J x (pick J x)
  | _, _, .nil => ⟨rfl, fun _ h => by cases h⟩
  | _, _, .cons h t => by
    obtain ⟨e, k⟩ := pick_map hinj t
    refine ⟨by rw [List.map_cons, pick_eq hinj h, ← e], fun x hx => ?_⟩
    rcases List.mem_cons.mp hx with rfl | hx
    · rw [pick_eq hinj h]; exact h
    · exact k x hx
theorem paired_map {J : KRow → Row → Prop} : ∀ {L : List KRow}, (∀ x ∈ L, J x (pick J x)) → Paired J L (L.map (pick J))
  | [], _ => .nil
  | x :: L, h => .cons (h x (List.mem_cons_self ..)) (paired_map fun y hy => h y (List.mem_cons_of_mem _ hy))
theorem lt_of_key {x y : KRow} {st : SortSt} {b : Bool} {Q : Option Bool → SortSt → Prop} (hk : PyProof.Rows.kindOf st = κ) (hc : wpAny M A (keyLt' κ x.1 y.1) (fun c s' => c = b ∧ s' = s) (fun _ _ => False) s) (h : Q (some b) st) : PyProof.Rows.wpS M A E s (lt' x y) Q st := by
  rw [lt'_eq]
  refine wpS_bind (wpS_get ?_)
  rw [hk]
  refine wpS_bind (wpS_lift (wpAny_attempt (wpAny_mono hc (fun c s' hq => ?_) fun _ _ e => e.elim)))
  obtain ⟨rfl, rfl⟩ := hq
  exact ⟨rfl, wpS_pure h⟩
theorem sort_core {J : KRow → Row → Prop} {lo : Row → Row → Bool} (W : SWO lo) (hinj : ∀ x r r', J x r → J x r' → r = r')
    (hcmp : ∀ x y r r', J x r → J y r' → wpAny M A (keyLt' κ x.1 y.1) (fun c s' => c = lo r r' ∧ s' = s) (fun _ _ => False) s) {L : List KRow} {rs : List Row} (hJ : Paired J L rs) (h2 : 2 ≤ L.length) {Q : Unit → SortSt → Prop}
    (h : ∀ st' L' rs', failedOf st' = none → arrOf st' = L'.toArray → Paired J L' rs' → rs'.Perm rs → rs'.Pairwise (fun a b => lo b a = false) → Q () st') :
    PyProof.Rows.wpS M A E s sortRuns' Q (SortSt.mk' κ L.toArray #[] 7 none) := by
  obtain ⟨hrs, hP⟩ := pick_map hinj hJ
  have hL : LtOk M A E s κ (fun x => x ∈ L) (fun x => (rank lo rs (pick J x) : Int)) := fun x y st Q hx hy hk hq => by
    refine lt_of_key hk (hcmp x y _ _ (hP x hx) (hP y hy)) ?_
    have hm : pick J x ∈ rs := by rw [hrs]; exact List.mem_map_of_mem hx
    have e : decide ((rank lo rs (pick J x) : Int) < (rank lo rs (pick J y) : Int)) = lo (pick J x) (pick J y) := by
      have := rank_lt W (b := pick J y) hm
      cases hc : lo (pick J x) (pick J y) with
      | true => rw [decide_eq_true]; have := this.mp hc; omega
      | false => rw [decide_eq_false]; intro hlt; have := this.mpr (by omega); rw [hc] at this; cases this
    rw [← e]; exact hq
  refine sortRuns_ok (a₀ := L.toArray) hL (fun i x hx => ?_) ⟨.refl _, rfl, rfl⟩ rfl (by simpa using h2) fun st' B' hs => ?_
  · have := (Array.getElem?_eq_some_iff.mp hx).2; rw [← this]; simp
  · have hp : (arrOf st').toList.Perm L := by simpa using B'.perm
    have hP' : ∀ x ∈ (arrOf st').toList, J x (pick J x) := fun x hx => hP x (hp.mem_iff.mp hx)
    refine h st' (arrOf st').toList ((arrOf st').toList.map (pick J)) B'.failed (by simp) (paired_map hP') (by rw [hrs]; exact hp.map _) ?_
    have hz : (arrOf st').size = L.toArray.size := B'.size
    refine List.pairwise_iff_getElem.mpr fun i j hi hj hij => ?_
    simp only [List.length_map, Array.length_toList] at hi hj
    have e1 : (arrOf st')[i]? = some (arrOf st')[i] := getElem?_pos _ i hi
    have e2 : (arrOf st')[j]? = some (arrOf st')[j] := getElem?_pos _ j hj
    have := hs i j (Nat.zero_le _) (Nat.le_of_lt hij) (by rw [← hz]; exact hj)
    rw [kk_of e1, kk_of e2] at this
    simp only [List.getElem_map, Array.getElem_toList]
    cases hc : lo (pick J (arrOf st')[j]) (pick J (arrOf st')[i]) with
    | false => rfl
    | true =>
      have hm : pick J (arrOf st')[j] ∈ rs := by rw [hrs]; exact List.mem_map_of_mem (hp.mem_iff.mp (by simp))
      have := (rank_lt W hm).mp hc
      omega
end
def rowLt (a b : Row) : Bool := if a.1 = b.1 then decide (a.2 < b.2) else decide (a.1 < b.1)
def nameLt (a b : Row) : Bool := decide (a.1 < b.1)
theorem list_tri (a b : List Nat) : a < b ∨ a = b ∨ b < a := by
  by_cases h1 : a < b
  · exact .inl h1
  · by_cases h2 : b < a
    · exact .inr (.inr h2)
    · exact .inr (.inl (List.le_antisymm (List.not_lt.mp h2) (List.not_lt.mp h1)))
theorem nameLt_swo : SWO nameLt := by
  refine ⟨fun a => ?_, fun a b c h1 h2 => ?_, fun a b c h => ?_⟩
  · simp [nameLt, List.lt_irrefl]
  · simp only [nameLt, decide_eq_true_eq] at *; exact List.lt_trans h1 h2
  · simp only [nameLt, decide_eq_true_eq] at *
    rcases list_tri a.1 b.1 with q | q | q
    · exact .inl q
    · rw [← q]; exact .inr h
    · exact .inr (List.lt_trans q h)
theorem rowLt_iff (a b : Row) : rowLt a b = true ↔ a.1 < b.1 ∨ (a.1 = b.1 ∧ a.2 < b.2) := by
  unfold rowLt
  split
  · rename_i h; rw [decide_eq_true_eq]
    constructor
    · exact fun q => .inr ⟨h, q⟩
    · rintro (q | q)
      · rw [h] at q; exact absurd q (List.lt_irrefl _)
      · exact q.2
  · rename_i h; rw [decide_eq_true_eq]
    constructor
    · exact fun q => .inl q
    · rintro (q | q)
      · exact q
      · exact absurd q.1 h
theorem rowLt_swo : SWO rowLt := by
  refine ⟨fun a => ?_, fun a b c h1 h2 => ?_, fun a b c h => ?_⟩
  · cases h : rowLt a a with
    | false => rfl
    | true => rcases (rowLt_iff a a).mp h with q | q; exact absurd q (List.lt_irrefl _); omega
  · rw [rowLt_iff] at *
    rcases h1 with h1 | ⟨h1, h1'⟩ <;> rcases h2 with h2 | ⟨h2, h2'⟩
    · exact .inl (List.lt_trans h1 h2)
    · rw [← h2]; exact .inl h1
    · rw [h1]; exact .inl h2
    · exact .inr ⟨h1.trans h2, by omega⟩
  · rw [rowLt_iff, rowLt_iff]
    rw [rowLt_iff] at h
    rcases list_tri a.1 b.1 with q | q | q
    · exact .inl (.inl q)
    · rcases h with h | ⟨h, h'⟩
      · rw [← q]; exact .inr (.inl h)
      · by_cases hb : a.2 < b.2
        · exact .inl (.inr ⟨q, hb⟩)
        · exact .inr (.inr ⟨q.symm.trans h, by omega⟩)
    · rcases h with h | ⟨h, h'⟩
      · exact .inr (.inl (List.lt_trans q h))
      · rw [h] at q; exact .inr (.inl q)
end Mine

set_option autoImplicit false
set_option genSizeOf false
set_option genInjectivity false
namespace Mine
open PySem PyProof.Rows

/-! ## abstract values; frozen objects; lists of a frame's own -/
inductive V where
  | unb | none | bool (b : Bool) | int (i : Int) | str (s : List Nat) | tup (xs : List V) | lst (xs : List V) | scr (xs : List V) | ref (a : Addr) | rng (a b : Int) | prim (v : Value) | obj (P : Addr → Obj → Addr → Obj → Prop)

abbrev Fz := Addr → Option Obj
abbrev Ow := Addr → Option (List V)
noncomputable def Ow.set (σ : Ow) (a : Addr) (xs : List V) : Ow := fun b => if b = a then some xs else σ b
theorem Ow.set_self (σ : Ow) (a : Addr) (xs : List V) : σ.set a xs a = some xs := if_pos rfl
theorem Ow.set_ne (σ : Ow) {a b : Addr} (xs : List V) (h : b ≠ a) : σ.set a xs b = σ b := if_neg h
noncomputable def Fz.add (F : Fz) (a : Addr) (o : Obj) : Fz := fun b => if b = a then some o else F b

def lobj (vs : List Value) (n : Nat) : Obj := { cls := .type "list", data := .seq vs.toArray n }
def tobj (vs : List Value) (n : Nat) : Obj := { cls := .type "tuple", data := .seq vs.toArray n }
mutual
def Rel (F : Fz) : V → Value → Prop
  | .unb, _ => True
  | .none, v => v = .none
  | .bool b, v => v = .bool b
  | .int i, v => ∃ t, v = .int i t
  | .str s, v => ∃ t, v = .str ⟨s.toArray⟩ t
  | .tup xs, v => ∃ a vs, v = .ref a ∧ (∃ n, F a = some (tobj vs n)) ∧ RelL F xs vs
  | .lst xs, v => ∃ a vs, v = .ref a ∧ (∃ n, F a = some (lobj vs n)) ∧ RelL F xs vs
  | .scr xs, v => ∃ a vs, v = .ref a ∧ (∃ o, F a = some o ∧ o.cls = .type "list" ∧ ∃ n, o.data = .seq vs.toArray n) ∧ RelL F xs vs
  | .ref a, v => v = .ref a
  | .rng a b, v => (-(2 ^ 62) ≤ a ∧ a < 2 ^ 62 ∧ -(2 ^ 62) ≤ b ∧ b < 2 ^ 62) ∧ ∃ r t u w, v = .ref r ∧ F r = some { cls := .type "range", dict := none, data := .fields #[.int a t, .int b u, .int 1 w], slots := #[] }
  | .prim w, v => v = w
  | .obj P, v => ∃ a o d od, v = .ref a ∧ F a = some o ∧ F d = some od ∧ P a o d od
def RelL (F : Fz) : List V → List Value → Prop
  | [], vs => vs = []
  | x :: xs, vs => ∃ v ws, vs = v :: ws ∧ Rel F x v ∧ RelL F xs ws
end
mutual
theorem Rel.mono {F F' : Fz} (k : ∀ a o, F a = some o → F' a = some o) : ∀ {x : V} {v : Value}, Rel F x v → Rel F' x v
  | .unb, _, _ => trivial
  | .none, _, r => r
  | .bool _, _, r => r
  | .int _, _, r => r
  | .str _, _, r => r
  | .tup _, _, r => r.imp fun _ r => r.imp fun _ r => ⟨r.1, r.2.1.imp fun _ => k _ _, RelL.mono k r.2.2⟩
  | .lst _, _, r => r.imp fun _ r => r.imp fun _ r => ⟨r.1, r.2.1.imp fun _ => k _ _, RelL.mono k r.2.2⟩
  | .scr _, _, r => r.imp fun _ r => r.imp fun _ r => ⟨r.1, r.2.1.imp fun _ q => ⟨k _ _ q.1, q.2⟩, RelL.mono k r.2.2⟩
  | .ref _, _, r => r
  | .rng _ _, _, r => ⟨r.1, r.2.imp fun _ r => r.imp fun _ r => r.imp fun _ r => r.imp fun _ r => ⟨r.1, k _ _ r.2⟩⟩
  | .prim _, _, r => r
  | .obj _, _, r => r.imp fun _ r => r.imp fun _ r => r.imp fun _ r => r.imp fun _ r => ⟨r.1, k _ _ r.2.1, k _ _ r.2.2.1, r.2.2.2⟩
theorem RelL.mono {F F' : Fz} (k : ∀ a o, F a = some o → F' a = some o) : ∀ {xs : List V} {vs : List Value}, RelL F xs vs → RelL F' xs vs
  | [], _, r => r
  | _ :: _, _, r => r.imp fun _ r => r.imp fun _ r => ⟨r.1, Rel.mono k r.2.1, RelL.mono k r.2.2⟩
end
section
variable {F : Fz}
theorem RelL.length : ∀ {xs : List V} {vs : List Value}, RelL F xs vs → vs.length = xs.length
  | [], _, rfl => rfl
  | _ :: _, _, ⟨_, _, e, _, r⟩ => e ▸ congrArg Nat.succ (RelL.length r)
theorem RelL.get : ∀ {xs : List V} {vs : List Value} {i : Nat} {x : V}, RelL F xs vs → xs[i]? = some x → ∃ v, vs[i]? = some v ∧ Rel F x v
  | [], _, _, _, _, e => nomatch e
  | _ :: _, _, 0, _, ⟨v, _, e, a, _⟩, q => ⟨v, e ▸ rfl, Option.some.inj q ▸ a⟩
  | _ :: _, _, i + 1, _, ⟨_, _, e, _, r⟩, q => e ▸ r.get (i := i) q
theorem RelL.append : ∀ {xs : List V} {vs : List Value} {ys : List V} {ws : List Value}, RelL F xs vs → RelL F ys ws → RelL F (xs ++ ys) (vs ++ ws)
  | [], _, _, _, rfl, r => r
  | _ :: _, _, _, _, ⟨v, us, e, a, b⟩, r => ⟨v, us ++ _, e ▸ rfl, a, b.append r⟩
theorem RelL.take : ∀ {xs : List V} {vs : List Value} (n : Nat), RelL F xs vs → RelL F (xs.take n) (vs.take n)
  | _, _, 0, _ => rfl
  | [], _, _ + 1, rfl => rfl
  | _ :: _, _, n + 1, ⟨v, us, e, a, b⟩ => ⟨v, us.take n, e ▸ rfl, a, b.take n⟩
theorem RelL.drop : ∀ {xs : List V} {vs : List Value} (n : Nat), RelL F xs vs → RelL F (xs.drop n) (vs.drop n)
  | _, _, 0, r => r
  | [], _, _ + 1, rfl => rfl
  | _ :: _, _, n + 1, ⟨_, _, e, _, b⟩ => e ▸ b.drop n
theorem RelL.one {x : V} {v : Value} (r : Rel F x v) : RelL F [x] [v] := ⟨v, [], rfl, r, rfl⟩
def RelO (F : Fz) (x : V) (ov : Option Value) : Prop := x ≠ .unb → ∃ v, ov = some v ∧ Rel F x v
theorem RelO.mono {F' : Fz} (k : ∀ a o, F a = some o → F' a = some o) {x : V} {ov : Option Value} (r : RelO F x ov) : RelO F' x ov := fun h => (r h).imp fun _ q => ⟨q.1, q.2.mono k⟩
end

/-! ## from one state to a later one -/
/-- an object stays; of a dict (a frame's names) the slots may change: a raise writes them -/
def KeepO (o o' : Obj) : Prop := o' = o ∨ ((∃ es n, o.data = .dict es n) ∧ ∃ sl, o' = { o with slots := sl })
theorem KeepO.trans {a b c : Obj} (x : KeepO a b) (y : KeepO b c) : KeepO a c := by
  rcases x with rfl | ⟨hd, sl, rfl⟩
  · exact y
  · rcases y with rfl | ⟨_, sl', rfl⟩
    · exact .inr ⟨hd, sl, rfl⟩
    · exact .inr ⟨hd, sl', rfl⟩
theorem KeepO.data {a b : Obj} (x : KeepO a b) : b.data = a.data := by
  rcases x with rfl | ⟨_, _, rfl⟩ <;> rfl
/-- a dict stays one -/
def DK (o o' : Obj) : Prop := ∀ es n, o.data = .dict es n → ∃ es n, o'.data = .dict es n
theorem DK.refl (o : Obj) : DK o o := fun es n e => ⟨es, n, e⟩
theorem DK.trans {a b c : Obj} (x : DK a b) (y : DK b c) : DK a c := fun es n e => (x es n e).elim fun es e => e.elim fun n e => y es n e
structure St (D : Addr → Prop) (F : Fz) (s : Shared) (F' : Fz) (s' : Shared) : Prop where
  up : ∀ a o, F a = some o → F' a = some o
  sub : ∀ a o, F' a = some o → s'.heap.get? a = some o
  keepO : ∀ b o, s.heap.get? b = some o → ¬ D b → ∃ o', s'.heap.get? b = some o' ∧ KeepO o o'
  live : ∀ b o, s.heap.get? b = some o → ∃ o', s'.heap.get? b = some o' ∧ DK o o'
  new : ∀ b o, F' b = some o → F b = some o ∨ s.heap.get? b = none
  rest : s' = { s with heap := s'.heap, toks := s'.toks }
abbrev N0 : Addr → Prop := fun _ => False
section
variable {D D' : Addr → Prop} {F F₁ F₂ : Fz} {s s₁ s₂ : Shared}
theorem St.keep (S : St D F s F₁ s₁) (b : Addr) (o : Obj) (e : s.heap.get? b = some o) (d : ¬ D b) (hd : ∀ es n, o.data ≠ .dict es n) : s₁.heap.get? b = some o :=
  (S.keepO b o e d).elim fun _ q => q.2.elim (fun h => h ▸ q.1) fun h => h.1.elim fun es h => h.elim fun n h => absurd h (hd es n)
theorem St.dead (S : St D F s F₁ s₁) {b : Addr} (h : s₁.heap.get? b = none) : s.heap.get? b = none := by
  cases q : s.heap.get? b with
  | none => rfl
  | some o => exact (S.live b o q).elim fun _ e => nomatch h.symm.trans e.1
theorem St.trans (x : St D F s F₁ s₁) (y : St D F₁ s₁ F₂ s₂) : St D F s F₂ s₂ :=
  ⟨fun a o e => y.up a o (x.up a o e), y.sub, fun b o e d => (x.keepO b o e d).elim fun o' q => (y.keepO b o' q.1 d).imp fun _ r => ⟨r.1, q.2.trans r.2⟩, fun b o e => (x.live b o e).elim fun o' e' => (y.live b o' e'.1).imp fun _ r => ⟨r.1, e'.2.trans r.2⟩,
    fun b o e => (y.new b o e).elim (x.new b o) fun q => .inr (x.dead q), by rw [y.rest, x.rest]⟩
theorem St.weaken (x : St D F s F₁ s₁) (h : ∀ b o, s.heap.get? b = some o → D b → D' b) : St D' F s F₁ s₁ :=
  ⟨x.up, x.sub, fun b o e d => x.keepO b o e fun q => d (h b o e q), x.live, x.new, x.rest⟩
theorem St.any (x : St N0 F s F₁ s₁) : St D F s F₁ s₁ := x.weaken fun _ _ _ => False.elim
theorem St.back (x : St D F s F₁ s₁) (h : ∀ b, D b → s.heap.get? b = none) : St N0 F s F₁ s₁ := x.weaken fun b _ e d => nomatch e.symm.trans (h b d)
theorem St.grow {h' : Heap} {t : Nat} (sub : ∀ a o, F a = some o → s.heap.get? a = some o) (k : ∀ b o, s.heap.get? b = some o → h'.get? b = some o) : St D F s F { s with heap := h', toks := t } :=
  ⟨fun _ _ e => e, fun a o e => k a o (sub a o e), fun b o e _ => ⟨o, k b o e, .inl rfl⟩, fun b o e => ⟨o, k b o e, .refl o⟩, fun _ _ e => .inl e, rfl⟩
theorem St.refl (sub : ∀ a o, F a = some o → s.heap.get? a = some o) : St D F s F s := St.grow (h' := s.heap) (t := s.toks) sub fun _ _ e => e
theorem size_none (h : Heap) : h.get? h.objs.size = none := by
  cases q : h.get? h.objs.size with
  | none => rfl
  | some o => exact absurd (Heap.lt_size q) (Nat.lt_irrefl _)
/-- a new object, frozen -/
theorem St.freeze (S : St D F s F₁ s₁) {a : Addr} {o : Obj} (ha : s.heap.get? a = none) (ho : s₁.heap.get? a = some o) (hn : F₁ a = none) : St D F s (F₁.add a o) s₁ := by
  refine ⟨fun b p e => ?_, fun b p e => ?_, S.keepO, S.live, fun b p e => ?_, S.rest⟩ <;> by_cases h : b = a
  · exact nomatch (h ▸ S.up b p e : F₁ a = some p).symm.trans hn
  · exact (if_neg h).trans (S.up b p e)
  · subst h; exact (Option.some.inj ((if_pos rfl).symm.trans e)) ▸ ho
  · exact S.sub b p ((if_neg h).symm.trans e)
  · exact .inr (h ▸ ha)
  · exact S.new b p ((if_neg h).symm.trans e)
theorem Fz.add_self {a : Addr} {o : Obj} : F.add a o a = some o := if_pos rfl
end
end Mine

set_option autoImplicit false
set_option linter.all false
set_option genSizeOf false
set_option genInjectivity false
set_option maxRecDepth 100000
namespace Mine
open PySem PyProof.Rows

/-! ## the context -/
def blts : List (Str × Value) := [("len", .builtin "len"), ("isinstance", .builtin "isinstance"), ("range", .type "range"), ("min", .builtin "min"), ("int", .type "int"), ("tuple", .type "tuple"), ("list", .type "list"), ("sorted", .builtin "sorted"), ("ord", .builtin "ord"), ("all", .builtin "all"), ("str", .type "str"), ("bool", .type "bool"), ("set", .type "set")]
structure Gl where
  prog : Program
  w : World
  B : Heap
  mg : Str → Option Value
  mb : Str → Option Value
  d : Nat
abbrev Gl.M (G : Gl) : Model := model G.prog G.w
abbrev Gl.dn (G : Gl) : Gl := ⟨G.prog, G.w, G.B, G.mg, G.mb, G.d - 1⟩
structure Gl.Ok (G : Gl) : Prop where
  g : G.B.Ns mainGlobals G.mg
  b : G.B.Ns builtinsNs G.mb
  nolimit : G.B.NoLimit
  blt : ∀ (i : Nat) (x : Str) (v : Value), blts[i]? = some (x, v) → G.mg x = none ∧ G.mb x = some v
/-- the frames that are open: each has a dict of its own, not frozen -/
def FrOk (F : Fz) (h : Heap) (l : List Env) : Prop := ∀ env ∈ l, env.scope.kind ≠ .module ∧ ∃ L, env.frame = some L ∧ F L = none ∧ ∃ o es n, h.get? L = some o ∧ o.data = .dict es n
def NoFr (A : Around) (q : Addr) : Prop := ∀ l, A.frames = some l → ∀ env ∈ l, env.frame ≠ some q
structure Rm (G : Gl) (A : Around) (F : Fz) (s : Shared) : Prop where
  go : G.Ok
  base : ∀ a o, G.B.get? a = some o → F a = some o
  sub : ∀ a o, F a = some o → s.heap.get? a = some o
  depth : A.depth + G.d ≤ recursionLimit
  units : A.units + 10 * G.d + 100 ≤ cLine
  handled : A.handled = none
  frames : ∃ l, A.frames = some l ∧ FrOk F s.heap l
structure Sx where
  sc : Scope
  ns : List Str
def nameOK (K : Sx) (i : Nat) (x : Str) : Bool :=
  K.ns[i]? == some x && (K.sc.names.lookup x == some .local || K.sc.names.lookup x == some .cell) && !(x == ("__debug__" : Str))
def globOK (K : Sx) (x : Str) : Bool := K.sc.names.lookup x == some .globalImplicit && !(x == ("__debug__" : Str))
structure LOk (K : Sx) (env : Env) (ρ : List V) (F : Fz) (h : Heap) : Prop where
  len : ρ.length = K.ns.length
  out : F env.locals = none
  vars : ∃ m, h.Ns env.locals m ∧ ∀ (i : Nat) (x : Str) (v : V), K.ns[i]? = some x → ρ[i]? = some v →
    (K.sc.names.lookup x = some .local → RelO F v (m x)) ∧
    (K.sc.names.lookup x = some .cell → ∃ c ov, env.cells.lookup x = some c ∧ h.IsCell c ov ∧ RelO F v ov ∧ F c = none)
structure EOk (G : Gl) (K : Sx) (A : Around) (env : Env) (ρ : List V) (σ : Ow) (F : Fz) (s : Shared) : Prop where
  rm : Rm G A F s
  sc : env.scope = K.sc
  kind : env.scope.kind = .function
  globals : env.globals = mainGlobals
  builtins : env.builtins = builtinsNs
  own : ∀ a xs, σ a = some xs → F a = none ∧ ∃ vs n, s.heap.get? a = some (lobj vs n) ∧ RelL F xs vs
  loc : LOk K env ρ F s.heap
section
variable {G : Gl} {K : Sx} {A : Around} {env : Env} {ρ : List V} {σ : Ow} {F F' : Fz} {s s' : Shared} {D : Addr → Prop}
theorem St.out (S : St D F s F' s') {a : Addr} {o : Obj} (h : F a = none) (ho : s.heap.get? a = some o) : F' a = none := by
  cases q : F' a with
  | none => rfl
  | some p => exact (S.new a p q).elim (fun e => nomatch h.symm.trans e) fun e => nomatch ho.symm.trans e
theorem FrOk.step {l : List Env} (h : FrOk F s.heap l) (S : St D F s F' s') : FrOk F' s'.heap l := fun env m => (h env m).imp id fun q => q.imp fun _ q => ⟨q.1, q.2.2.elim fun _ r => r.elim fun _ r => r.elim fun _ r => S.out q.2.1 r.1,
  q.2.2.elim fun o r => r.elim fun es r => r.elim fun n r => (S.live _ o r.1).imp fun _ t => (t.2 es n r.2).imp fun _ u => u.imp fun _ u => ⟨t.1, u⟩⟩
theorem Rm.step (R : Rm G A F s) (S : St D F s F' s') : Rm G A F' s' := ⟨R.go, fun a o e => S.up a o (R.base a o e), S.sub, R.depth, R.units, R.handled, R.frames.imp fun _ q => ⟨q.1, q.2.step S⟩⟩
theorem Rm.nofr (R : Rm G A F s) {q : Addr} (h : ∀ o es n, s.heap.get? q = some o → o.data ≠ .dict es n) : NoFr A q := fun l e env m hq => R.frames.elim fun l' r => by
  cases e.symm.trans r.1
  obtain ⟨_, L, hL, _, o, es, n, ho, hd⟩ := r.2 env m
  cases hq.symm.trans hL
  exact h o es n ho hd
theorem Rm.frs (R : Rm G A F s) {F' : Fz} {h' : Heap} (k : ∀ L, ¬ NoFr A L → F L = none → (∃ o es n, s.heap.get? L = some o ∧ o.data = .dict es n) → F' L = none ∧ ∃ o es n, h'.get? L = some o ∧ o.data = .dict es n) : ∃ l, A.frames = some l ∧ FrOk F' h' l :=
  R.frames.imp fun l r => ⟨r.1, fun env m => (r.2 env m).imp id fun t => t.imp fun L t => ⟨t.1, k L (fun hn => hn l r.1 env m t.1) t.2.1 t.2.2⟩⟩
theorem ns_keepO {h h' : Heap} {a : Addr} {m : Str → Option Value} (hn : h.Ns a m) (k : ∀ o, h.get? a = some o → ∃ o', h'.get? a = some o' ∧ KeepO o o') : h'.Ns a m :=
  hn.elim fun o r => r.elim fun es r => r.elim fun ep r => (k o r.1).elim fun o' q => ⟨o', es, ep, q.1, q.2.data.trans r.2.1, r.2.2⟩
theorem ns_keep {h h' : Heap} {a : Addr} {m : Str → Option Value} (hn : h.Ns a m) (k : ∀ o, h.get? a = some o → h'.get? a = some o) : h'.Ns a m := hn.imp fun _ r => r.imp fun _ r => r.imp fun _ r => ⟨k _ r.1, r.2⟩
theorem Ns_obj {h : Heap} {a : Addr} {m : Str → Option Value} (hn : h.Ns a m) : ∃ o, h.get? a = some o := hn.imp fun _ r => r.elim fun _ r => r.elim fun _ r => r.1
theorem LOk.step (L : LOk K env ρ F s.heap) (S : St N0 F s F' s') : LOk K env ρ F' s'.heap :=
  ⟨L.len, L.vars.elim fun _ q => (Ns_obj q.1).elim fun _ e => S.out L.out e, L.vars.imp fun _ q => ⟨ns_keepO q.1 fun o e => S.keepO _ o e id, fun i x v hx hv => ⟨fun k => ((q.2 i x v hx hv).1 k).mono S.up, fun k =>
    ((q.2 i x v hx hv).2 k).imp fun _ r => r.imp fun _ r => ⟨r.1, r.2.1.imp fun _ t => ⟨S.keep _ _ t.1 id (fun _ _ e => nomatch t.2.symm.trans e), t.2⟩, r.2.2.1.mono S.up, r.2.1.elim fun _ t => S.out r.2.2.2 t.1⟩⟩⟩⟩
theorem EOk.step (E : EOk G K A env ρ σ F s) (S : St N0 F s F' s') : EOk G K A env ρ σ F' s' :=
  ⟨E.rm.step S, E.sc, E.kind, E.globals, E.builtins, fun a xs q => (E.own a xs q).elim fun hF r => r.elim fun vs r => r.elim fun n r => ⟨S.out hF r.1, vs, n, S.keep _ _ r.1 id (fun _ _ e => nomatch e), r.2.mono S.up⟩, E.loc.step S⟩
end
/-! ## what a tree is to give -/
inductive PV (F : Fz) (s : Shared) (x : V) (v : Value) (s' : Shared) : Prop
  | mk (F' : Fz) (S : St N0 F s F' s') (r : Rel F' x v)
inductive PL (F : Fz) (s : Shared) (x : List V) (v : List Value) (s' : Shared) : Prop
  | mk (F' : Fz) (S : St N0 F s F' s') (r : RelL F' x v)
inductive PB (F : Fz) (s : Shared) (x : Bool) (v : Bool) (s' : Shared) : Prop
  | mk (F' : Fz) (S : St N0 F s F' s') (r : v = x)
def Ev (G : Gl) (K : Sx) (ρ : List V) (σ : Ow) (e : PySem.Expr) (x : V) : Prop :=
  ∀ A env F s E, EOk G K A env ρ σ F s → wpAny G.M A (eval e env) (PV F s x) E s
def Tr (G : Gl) (K : Sx) (ρ : List V) (σ : Ow) (e : PySem.Expr) (b : Bool) : Prop :=
  ∀ A env F s E, EOk G K A env ρ σ F s → wpAny G.M A (isTrue e env (eval e env)) (PB F s b) E s
section
variable {G : Gl} {K : Sx} {A : Around} {env : Env} {ρ : List V} {σ : Ow} {F F₁ : Fz} {s s₁ : Shared} {E : Value → Shared → Prop} {e l r : PySem.Expr} {x y z : V} {p q : Pos}
theorem PV.from (S : St N0 F s F₁ s₁) {v : Value} {s' : Shared} (h : PV F₁ s₁ x v s') : PV F s x v s' := h.casesOn fun F' S' r => ⟨F', S.trans S', r⟩
theorem wp_from (S : St N0 F s F₁ s₁) {M : Model} {t : Sem Value} (h : wpAny M A t (PV F₁ s₁ x) E s₁) : wpAny M A t (PV F s x) E s₁ := wpAny_mono h (fun _ _ q => q.from S) fun _ _ e => e
theorem Ev.bind {R : Value → Shared → Prop} (h : Ev G K ρ σ e x) (k₀ : EOk G K A env ρ σ F s) (k : ∀ v F' s', St N0 F s F' s' → Rel F' x v → EOk G K A env ρ σ F' s' → R v s') : wpAny G.M A (eval e env) R E s :=
  wpAny_mono (h A env F s E k₀) (fun v s' q => q.casesOn fun F' S r => k v F' s' S r (k₀.step S)) fun _ _ e => e
theorem Tr.bind {b : Bool} {R : Bool → Shared → Prop} (h : Tr G K ρ σ e b) (k₀ : EOk G K A env ρ σ F s) (k : ∀ F' s', St N0 F s F' s' → EOk G K A env ρ σ F' s' → R b s') : wpAny G.M A (isTrue e env (eval e env)) R E s :=
  wpAny_mono (h A env F s E k₀) (fun v s' q => q.casesOn fun F' S r => r ▸ k F' s' S (k₀.step S)) fun _ _ e => e
theorem pv_same {v : Value} (k : EOk G K A env ρ σ F s) (r : Rel F x v) : PV F s x v s := ⟨F, .refl k.rm.sub, r⟩
theorem pv_tok {v : Value} (R : Rm G A F s) (t : Nat) (r : Rel F x v) : PV F s x v { s with toks := t } := ⟨F, .grow R.sub fun _ _ e => e, r⟩
theorem pv_push {v : Value} (R : Rm G A F s) (o : Obj) (t : Nat) (r : Rel (F.add s.heap.objs.size o) x v) (hf : Obj.isFreed o = false) : PV F s x v { s with heap := s.heap.push o, toks := t } :=
  ⟨_, (St.grow (t := t) R.sub fun _ _ e => Heap.get?_push_of_some _ e).freeze (size_none _) (Heap.get?_push_size _ hf) (by
    cases q : F s.heap.objs.size with
    | none => rfl
    | some o => exact nomatch (size_none s.heap).symm.trans (R.sub _ _ q)), r⟩

/-! ## constants and names -/
theorem ev_none {k : Nat} : Ev G K ρ σ (.Constant .none k p) .none := fun _ _ _ _ _ k => by rw [eval_Constant]; exact wpAny_pure (pv_same k rfl)
theorem ev_bool {b : Bool} {k : Nat} : Ev G K ρ σ (.Constant (.bool b) k p) (.bool b) := fun _ _ _ _ _ k => by rw [eval_Constant]; exact wpAny_pure (pv_same k rfl)
theorem ev_int {i : Int} {k : Nat} : Ev G K ρ σ (.Constant (.int i) k p) (.int i) := fun _ _ _ _ _ k => wpAny_Constant_int (pv_tok k.rm _ ⟨_, rfl⟩)
theorem ev_str {a : Str} {k : Nat} : Ev G K ρ σ (.Constant (.str a) k p) (.str a.cps.toList) := fun _ _ _ _ _ k => Calls.Constant_str (pv_tok k.rm _ ⟨_, rfl⟩)
theorem ev_lit (l : List Nat) {a : Str} {k : Nat} (h : a.cps.toList = l := by decide +kernel) : Ev G K ρ σ (.Constant (.str a) k p) (.str l) := h ▸ ev_str
def V.ok : V → Bool
  | .unb => false
  | _ => true
theorem V.ok_ne (h : x.ok = true) : x ≠ .unb := fun e => by subst e; cases h
theorem nameOK_inv {i : Nat} {n : Str} (h : nameOK K i n = true) : K.ns[i]? = some n ∧ (K.sc.names.lookup n = some .local ∨ K.sc.names.lookup n = some .cell) ∧ (n == ("__debug__" : Str)) = false := by
  have h1 := Bool.and_eq_true_iff.mp h
  have h2 := Bool.and_eq_true_iff.mp h1.1
  exact ⟨eq_of_beq h2.1, (Bool.or_eq_true_iff.mp h2.2).imp eq_of_beq eq_of_beq, (Bool.not_eq_true' _).mp h1.2⟩
theorem globOK_inv {n : Str} (h : globOK K n = true) : K.sc.names.lookup n = some .globalImplicit ∧ (n == ("__debug__" : Str)) = false := by
  have h1 := Bool.and_eq_true_iff.mp h
  exact ⟨eq_of_beq h1.1, (Bool.not_eq_true' _).mp h1.2⟩
theorem kindOf_eq (k : EOk G K A env ρ σ F s) (n : Str) : env.kindOf n = K.sc.names.lookup n := by rw [← k.sc]; rfl
theorem name_var {i : Nat} {n : Str} {Q : Value → Shared → Prop} (k : EOk G K A env ρ σ F s) (hv : ρ[i]? = some x) (hu : x.ok = true) (h : nameOK K i n = true) (h2 : ∀ v, Rel F x v → Q v s) : wpAny G.M A (eval (.Name n p) env) Q E s := by
  have q := nameOK_inv h
  refine k.loc.vars.elim fun m r => ?_
  have r2 := r.2 i n x q.1 hv
  refine q.2.1.elim (fun hk => ?_) fun hk => ?_
  · exact (r2.1 hk (V.ok_ne hu)).elim fun v t => wpAny_Name (wpAny_loadName_local k.kind ((kindOf_eq k n).trans hk) r.1 t.1 (h2 _ t.2)) q.2.2
  · refine (r2.2 hk).elim fun c t => t.elim fun ov t => (t.2.2.1 (V.ok_ne hu)).elim fun v u => ?_
    exact wpAny_Name (wpAny_loadName_cell k.kind ((kindOf_eq k n).trans hk) t.1 (u.1 ▸ t.2.1) (h2 _ u.2)) q.2.2
theorem ev_var (i : Nat) {n : Str} (hv : ρ[i]? = some x) (hu : x.ok = true := by rfl) (h : nameOK K i n = true := by decide +kernel) : Ev G K ρ σ (.Name n p) x := fun A env F s E k => name_var k hv hu h fun _ r => pv_same k r
theorem Heap.Ns.up {h h' : Heap} {a : Addr} {m : Str → Option Value} (hn : h.Ns a m) (k : ∀ b o, h.get? b = some o → h'.get? b = some o) : h'.Ns a m := ns_keep hn fun _ e => k _ _ e
theorem Rm.in (R : Rm G A F s) : ∀ b o, G.B.get? b = some o → s.heap.get? b = some o := fun b o e => R.sub b o (R.base b o e)
theorem name_global {n : Str} {v : Value} {Q : Value → Shared → Prop} (k : EOk G K A env ρ σ F s) (hv : G.mg n = some v ∨ (G.mg n = none ∧ G.mb n = some v)) (h : globOK K n = true) (h2 : Q v s) : wpAny G.M A (eval (.Name n p) env) Q E s := by
  have hg := globOK_inv h
  refine Calls.Name_function_global k.kind ((kindOf_eq k n).trans hg.1) ?_ hg.2
  have hG : s.heap.Ns env.globals G.mg := by rw [k.globals]; exact k.rm.go.g.keeps k.rm.in
  exact hv.elim (fun hv => Calls.loadGlobal_global hG hv h2) fun hv => Calls.loadGlobal_builtin hG hv.1 (by rw [k.builtins]; exact k.rm.go.b.keeps k.rm.in) hv.2 h2
theorem ev_blt (i : Nat) {n : Str} {v : Value} (hb : blts[i]? = some (n, v)) (h : globOK K n = true) : Ev G K ρ σ (.Name n p) (.prim v) := fun _ _ _ _ _ k => name_global k (.inr (k.rm.go.blt i n v hb)) h (pv_same k rfl)

/-! ## operators -/
theorem ev_bin {op : Operator} (h1 : Ev G K ρ σ l x) (h2 : Ev G K ρ σ r y) (h : ∀ A F s E v w, Rm G A F s → Rel F x v → Rel F y w → wpAny G.M A (binaryOp op v w) (PV F s z) E s) : Ev G K ρ σ (.BinOp l op r p) z :=
  fun A env F s E k => wpAny_BinOp (h1.bind k fun v F₁ s₁ S₁ r₁ k₁ => h2.bind k₁ fun w F₂ s₂ S₂ r₂ k₂ => wp_from (S₁.trans S₂) (h A F₂ s₂ E v w k₂.rm (r₁.mono S₂.up) r₂))
variable {i j : Int} {a b : List Nat} {xs ys : List V}
theorem ev_add (h1 : Ev G K ρ σ l (.int i)) (h2 : Ev G K ρ σ r (.int j)) : Ev G K ρ σ (.BinOp l .Add r p) (.int (i + j)) :=
  ev_bin h1 h2 <| by rintro A F s E _ _ R ⟨_, rfl⟩ ⟨_, rfl⟩; exact P.add_int (pv_tok R _ ⟨_, rfl⟩)
theorem ev_sub (h1 : Ev G K ρ σ l (.int i)) (h2 : Ev G K ρ σ r (.int j)) : Ev G K ρ σ (.BinOp l .Sub r p) (.int (i - j)) :=
  ev_bin h1 h2 <| by rintro A F s E _ _ R ⟨_, rfl⟩ ⟨_, rfl⟩; exact P.sub_int (pv_tok R _ ⟨_, rfl⟩)
theorem ev_mul (h1 : Ev G K ρ σ l (.int i)) (h2 : Ev G K ρ σ r (.int j)) (h : IntMulOk i j) : Ev G K ρ σ (.BinOp l .Mult r p) (.int (i * j)) :=
  ev_bin h1 h2 <| by rintro A F s E _ _ R ⟨_, rfl⟩ ⟨_, rfl⟩; exact P.mul_int (pv_tok R _ ⟨_, rfl⟩) h
theorem ev_mod (h1 : Ev G K ρ σ l (.int i)) (h2 : Ev G K ρ σ r (.int j)) (h : 0 < j) : Ev G K ρ σ (.BinOp l .Mod r p) (.int (i % j)) :=
  ev_bin h1 h2 <| by rintro A F s E _ _ R ⟨_, rfl⟩ ⟨_, rfl⟩; exact mod_int' (Int.ne_of_gt h) (Int.fmod_eq_emod_of_nonneg i (Int.le_of_lt h) ▸ pv_tok R _ ⟨_, rfl⟩)
theorem ev_fdiv (h1 : Ev G K ρ σ l (.int i)) (h2 : Ev G K ρ σ r (.int j)) (h : 0 < j) (h' : j < 1073741824) : Ev G K ρ σ (.BinOp l .FloorDiv r p) (.int (i / j)) :=
  ev_bin h1 h2 <| by
    rintro A F s E _ _ R ⟨_, rfl⟩ ⟨_, rfl⟩; exact floordiv_int (Int.ne_of_gt h) (Int.fdiv_eq_ediv_of_nonneg i (Int.le_of_lt h) ▸ pv_tok R _ ⟨_, rfl⟩) (.inl (PyProof.noPylong_small (by (first | lia | omega))))
theorem length_str (a : List Nat) : (⟨a.toArray⟩ : Str).length = a.length := rfl
theorem append_str (a b : List Nat) : (⟨a.toArray⟩ : Str) ++ (⟨b.toArray⟩ : Str) = ⟨(a ++ b).toArray⟩ := by
  show Str.append _ _ = _
  simp [Str.append]
theorem made_str (R : Rm G A F s) (hl : a.length ≤ sizeLine) : (Made.str ⟨a.toArray⟩).post (PV F s (.str a)) s := ⟨hl, pv_tok R _ ⟨_, rfl⟩⟩
theorem ev_adds (h1 : Ev G K ρ σ l (.str a)) (h2 : Ev G K ρ σ r (.str b)) (h : a.length + b.length ≤ sizeLine) : Ev G K ρ σ (.BinOp l .Add r p) (.str (a ++ b)) :=
  ev_bin h1 h2 <| by
    rintro A F s E _ _ R ⟨_, rfl⟩ ⟨_, rfl⟩
    refine P.add_str ?_
    rw [append_str]
    split
    · rename_i hz
      have : a = [] := List.eq_nil_of_length_eq_zero (eq_of_beq hz)
      subst this; exact pv_tok R s.toks ⟨_, rfl⟩
    · split
      · rename_i hz
        have : b = [] := List.eq_nil_of_length_eq_zero (eq_of_beq hz)
        subst this; rw [List.append_nil]; exact pv_tok R s.toks ⟨_, rfl⟩
      · exact made_str R (by rw [List.length_append]; exact h)
theorem ev_addl (h1 : Ev G K ρ σ l (.lst xs)) (h2 : Ev G K ρ σ r (.lst ys)) (h : xs.length + ys.length ≤ sizeLine) : Ev G K ρ σ (.BinOp l .Add r p) (.lst (xs ++ ys)) :=
  ev_bin h1 h2 <| by
    rintro A F s E _ _ R ⟨_, us, rfl, ⟨n, h1⟩, r1⟩ ⟨_, ws, rfl, ⟨n', h2⟩, r2⟩
    have hp := pv_push (x := .lst (xs ++ ys)) (v := .ref s.heap.objs.size) R (lobj (us ++ ws) 0) s.toks ⟨_, us ++ ws, rfl, ⟨0, Fz.add_self⟩, (RelL.append r1 r2).mono fun a o e => (if_neg (by rintro rfl; exact nomatch (size_none s.heap).symm.trans (R.sub _ _ e))).trans e⟩ rfl
    have he : us.toArray ++ ws.toArray = (us ++ ws).toArray := by simp
    exact P.add_list (R.sub _ _ h1) (R.sub _ _ h2) (by rw [he]; exact hp) (by rw [List.size_toArray, List.size_toArray, r1.length, r2.length]; exact h)
theorem ev_neg (h1 : Ev G K ρ σ l (.int i)) : Ev G K ρ σ (.UnaryOp .USub l p) (.int (-i)) :=
  fun A env F s E k => wpAny_UnaryOp (h1.bind k (by rintro v F₁ s₁ S₁ ⟨_, rfl⟩ k₁; exact P.neg_int (PV.from S₁ (pv_tok (x := .int (-i)) k₁.rm _ ⟨_, rfl⟩))))
end
end Mine

set_option autoImplicit false
set_option linter.all false
set_option genSizeOf false
set_option genInjectivity false
set_option maxRecDepth 100000
namespace Mine
open PySem PyProof.Rows

/-! ## comparisons -/
def Cm (G : Gl) (op : CmpOp) (x y : V) (b : Bool) : Prop := ∀ A F s E v w R, Rm G A F s → Rel F x v → Rel F y w → R (.bool b) s → wpAny G.M A (compareOp op v w) R E s
section
variable {G : Gl} {K : Sx} {ρ : List V} {σ : Ow} {e l r : PySem.Expr} {es : List PySem.Expr} {x y z : V} {p q : Pos} {b c : Bool} {op : CmpOp} {i j : Int} {a a' : List Nat} {xs ys : List V}
theorem ev_cmp (h1 : Ev G K ρ σ l x) (h2 : Ev G K ρ σ r y) (h : Cm G op x y b) (hm : behindInMarks op r = false := by rfl) : Ev G K ρ σ (.Compare l [op] [r] p) (.bool b) :=
  fun A env F s E k => wpAny_Compare1 (h1.bind k fun v F₁ s₁ S₁ r₁ k₁ => h2.bind k₁ fun w F₂ s₂ S₂ r₂ k₂ => h A F₂ s₂ E v w _ k₂.rm (r₁.mono S₂.up) r₂ ⟨F₂, S₁.trans S₂, rfl⟩) hm
theorem tr_cmp (h1 : Ev G K ρ σ l x) (h2 : Ev G K ρ σ r y) (h : Cm G op x y b) (hm : behindInMarks op r = false := by rfl) : Tr G K ρ σ (.Compare l [op] [r] p) b :=
  fun A env F s E k => wpAny_isTrue_Compare1 (h1.bind k fun v F₁ s₁ S₁ r₁ k₁ => h2.bind k₁ fun w F₂ s₂ S₂ r₂ k₂ => h A F₂ s₂ E v w _ k₂.rm (r₁.mono S₂.up) r₂ (wpAny_truthy_bool ⟨F₂, S₁.trans S₂, rfl⟩)) hm
theorem cm_lt : Cm G .Lt (.int i) (.int j) (decide (i < j)) := by rintro A F s E _ _ R _ ⟨_, rfl⟩ ⟨_, rfl⟩ h; exact P.lt_int h
theorem cm_le : Cm G .LtE (.int i) (.int j) (decide (i ≤ j)) := by rintro A F s E _ _ R _ ⟨_, rfl⟩ ⟨_, rfl⟩ h; exact P.le_int h
theorem cm_gt : Cm G .Gt (.int i) (.int j) (decide (j < i)) := by rintro A F s E _ _ R _ ⟨_, rfl⟩ ⟨_, rfl⟩ h; exact P.gt_int h
theorem cm_ge : Cm G .GtE (.int i) (.int j) (decide (j ≤ i)) := by rintro A F s E _ _ R _ ⟨_, rfl⟩ ⟨_, rfl⟩ h; exact P.ge_int h
theorem cm_eqi : Cm G .Eq (.int i) (.int j) (i == j) := by rintro A F s E _ _ R _ ⟨_, rfl⟩ ⟨_, rfl⟩ h; exact P.eq_int h
theorem cm_nei : Cm G .NotEq (.int i) (.int j) (!(i == j)) := by rintro A F s E _ _ R _ ⟨_, rfl⟩ ⟨_, rfl⟩ h; exact P.ne_int h
theorem cm_eqs : Cm G .Eq (.str a) (.str a') (a == a') := by rintro A F s E _ _ R _ ⟨_, rfl⟩ ⟨_, rfl⟩ h; exact P.eq_str h
theorem cm_nes : Cm G .NotEq (.str a) (.str a') (!(a == a')) := by rintro A F s E _ _ R _ ⟨_, rfl⟩ ⟨_, rfl⟩ h; exact P.ne_str h
def V.nn : V → Bool
  | .bool _ | .int _ | .str _ | .tup _ | .lst _ | .ref _ => true
  | _ => false
theorem nn_val {F : Fz} {v : Value} (h : x.nn = true) (r : Rel F x v) : v ≠ .none ∧ plainIs v .none = true := by
  cases x <;> first | (cases h; done) | skip
  · cases show v = .bool _ from r; exact ⟨nofun, rfl⟩
  · obtain ⟨_, rfl⟩ := r; exact ⟨nofun, rfl⟩
  · obtain ⟨_, rfl⟩ := r; exact ⟨nofun, rfl⟩
  · obtain ⟨_, _, rfl, _⟩ := r; exact ⟨nofun, rfl⟩
  · obtain ⟨_, _, rfl, _⟩ := r; exact ⟨nofun, rfl⟩
  · cases show v = .ref _ from r; exact ⟨nofun, rfl⟩
theorem cm_is_none : Cm G .Is .none .none true := by rintro A F s E _ _ R _ rfl rfl h; exact wpAny_is_self rfl h
theorem cm_is_nn (h : x.nn = true) : Cm G .Is x .none false := by rintro A F s E _ _ R _ r rfl h'; exact wpAny_is_other (nn_val h r).2 (nn_val h r).1 h'
theorem cm_isnot (h : Cm G .Is x y b) : Cm G .IsNot x y (!b) := fun A F s E v w R k rv rw' hR => by
  have h' : wpAny G.M A (isSame v w >>= fun b => pure (Value.bool b)) (fun v s' => v = .bool b ∧ s' = s) E s := h A F s E v w _ k rv rw' ⟨rfl, rfl⟩
  show wpAny _ A (isSame v w >>= fun b => pure (.bool (!b))) R E s
  intro Γ p hΓ
  have := h' Γ p hΓ
  rw [Sem.wp_bind'] at this ⊢
  refine Sem.wp_mono _ Γ _ (fun b' p' s' hb => ?_) (fun _ _ _ x => x) _ _ this
  obtain ⟨e, rfl⟩ := hb
  cases e; exact hR
theorem cm_is_bool : Cm G .Is (.bool b) (.bool c) (b == c) := by
  rintro A F s E _ _ R _ rfl rfl h
  exact wpAny_is_plain rfl (by cases b <;> cases c <;> exact h)
theorem lst_list {F : Fz} {s : Shared} {A : Around} {v : Value} (R : Rm G A F s) (r : Rel F (.lst xs) v) : ∃ a vs, v = .ref a ∧ s.heap.IsList a (List.toArray vs) ∧ vs.length = xs.length ∧ RelL F xs vs :=
  r.imp fun _ r => r.imp fun _ r => ⟨r.1, r.2.1.elim fun n e => ⟨_, R.sub _ _ e, rfl, n, rfl⟩, r.2.2.length, r.2.2⟩
theorem Rm.room {A : Around} {F : Fz} {s : Shared} (R : Rm G A F s) : A.units < cLine := by have := R.units; (first | lia | omega)
open PySem.SeqAt in
theorem cm_eq_nil : Cm G .Eq (.lst xs) (.lst []) xs.isEmpty := fun A F s E v w R k rv rw' h => by
  obtain ⟨a, vs, rfl, hl, hn, _⟩ := lst_list k rv
  obtain ⟨a', ws, rfl, hl', hn', _⟩ := lst_list k rw'
  cases List.eq_nil_of_length_eq_zero hn'
  cases xs with
  | nil => cases List.eq_nil_of_length_eq_zero hn; exact RcAt.lists (e := fun _ => true) hl hl' rfl k.room (fun j h1 _ => absurd h1 (Nat.not_lt_zero _)) _ _ _ _ h
  | cons x xs => exact RcAt.lists_lengths hl hl' (by rw [List.size_toArray, hn]; rfl) k.room _ _ _ _ h
open PySem.SeqAt in
theorem cm_ne_nil : Cm G .NotEq (.lst xs) (.lst []) (!xs.isEmpty) := fun A F s E v w R k rv rw' h => by
  obtain ⟨a, vs, rfl, hl, hn, _⟩ := lst_list k rv
  obtain ⟨a', ws, rfl, hl', hn', _⟩ := lst_list k rw'
  cases List.eq_nil_of_length_eq_zero hn'
  cases xs with
  | nil => cases List.eq_nil_of_length_eq_zero hn; exact RcNeAt.lists (e := fun _ => true) hl hl' rfl k.room (fun j h1 _ => absurd h1 (Nat.not_lt_zero _)) _ _ _ _ h
  | cons x xs => exact RcNeAt.lists_lengths hl hl' (by rw [List.size_toArray, hn]; rfl) k.room _ _ _ _ h

/-! ## tests -/
def plainTest : PySem.Expr → Bool
  | .UnaryOp .Not _ _ | .BoolOp .. | .IfExp .. | .Compare .. => false
  | _ => true
theorem isTrue_plain (h : plainTest e = true) (env : Env) (w : Sem Value) : isTrue e env w = (do let v ← w; standAt e.pos; holding [v] (truthy v)) := by
  cases e <;> first | rfl | cases h | skip
  rename_i op x p
  cases op <;> first | rfl | cases h
theorem tr_ev (h : Ev G K ρ σ e (.bool b)) (hp : plainTest e = true := by rfl) : Tr G K ρ σ e b := fun A env F s E k => by
  rw [isTrue_plain hp]
  exact wpAny_bind (h.bind k fun v F₁ s₁ S₁ r₁ k₁ => wpAny_bind (wpAny_standAt (wpAny_holding (r₁ ▸ wpAny_truthy_bool ⟨F₁, S₁, rfl⟩))))
theorem tr_not (h : Tr G K ρ σ e b) : Tr G K ρ σ (.UnaryOp .Not e p) (!b) := fun A env F s E k => by
  show wpAny _ A (do return !(← isTrue e env (eval e env))) _ _ s
  exact wpAny_bind (h.bind k fun F₁ s₁ S₁ k₁ => wpAny_pure ⟨F₁, S₁, rfl⟩)
theorem PB.from {F F₁ : Fz} {s s₁ s' : Shared} (S : St N0 F s F₁ s₁) (h : PB F₁ s₁ b c s') : PB F s b c s' := h.casesOn fun F' S' r => ⟨F', S.trans S', r⟩
def TrL (G : Gl) (K : Sx) (ρ : List V) (σ : Ow) (op : BoolOp) (es : List PySem.Expr) (b : Bool) : Prop :=
  ∀ A env F s E, EOk G K A env ρ σ F s → wpAny G.M A (allTrue op es env) (PB F s b) E s
theorem tr_bop {op : BoolOp} (h : TrL G K ρ σ op es b) : Tr G K ρ σ (.BoolOp op es p) b := h
theorem trl_one {op : BoolOp} (h : Tr G K ρ σ e b) : TrL G K ρ σ op [e] b := fun A env F s E k =>
  wpAny_bind (h.bind k fun F₁ s₁ S₁ _ => by cases op <;> cases b <;> exact wpAny_pure ⟨F₁, S₁, rfl⟩)
theorem trl_and (h : Tr G K ρ σ e b) (h2 : b = true → TrL G K ρ σ .And es c) : TrL G K ρ σ .And (e :: es) (b && c) := fun A env F s E k =>
  wpAny_bind (h.bind k fun F₁ s₁ S₁ k₁ => by
    cases b
    · exact wpAny_pure ⟨F₁, S₁, rfl⟩
    · exact wpAny_mono (h2 rfl A env F₁ s₁ E k₁) (fun _ _ q => q.from S₁) fun _ _ e => e)
theorem trl_or (h : Tr G K ρ σ e b) (h2 : b = false → TrL G K ρ σ .Or es c) : TrL G K ρ σ .Or (e :: es) (b || c) := fun A env F s E k =>
  wpAny_bind (h.bind k fun F₁ s₁ S₁ k₁ => by
    cases b
    · exact wpAny_mono (h2 rfl A env F₁ s₁ E k₁) (fun _ _ q => q.from S₁) fun _ _ e => e
    · exact wpAny_pure ⟨F₁, S₁, rfl⟩)
/-! ## and, or, not as values -/
theorem ev_not (h : Ev G K ρ σ e (.bool b)) : Ev G K ρ σ (.UnaryOp .Not e p) (.bool (!b)) := fun A env F s E k => by
  show wpAny _ A (do let v ← eval e env; standAt p; holding [v] (unaryOp .Not v)) _ _ s
  refine wpAny_bind (h.bind k fun v F₁ s₁ S₁ r₁ k₁ => wpAny_bind (wpAny_standAt (wpAny_holding ?_)))
  show wpAny _ A (holding [v] (do return Value.bool (!(← truthy v)))) _ _ s₁
  exact wpAny_holding (wpAny_bind (r₁ ▸ wpAny_truthy_bool (wpAny_pure ⟨F₁, S₁, rfl⟩)))
def EvB (G : Gl) (K : Sx) (ρ : List V) (σ : Ow) (op : BoolOp) (es : List PySem.Expr) (b : Bool) : Prop :=
  ∀ A env F s E p, EOk G K A env ρ σ F s → wpAny G.M A (boolOp p op (evalEach es env)) (PV F s (.bool b)) E s
theorem ev_bop {op : BoolOp} (h : EvB G K ρ σ op es b) : Ev G K ρ σ (.BoolOp op es p) (.bool b) := fun A env F s E k => h A env F s E p k
theorem evb_one {op : BoolOp} (h : Ev G K ρ σ e (.bool b)) : EvB G K ρ σ op [e] b := fun A env F s E _ k => h A env F s E k
theorem evb_and (h : Ev G K ρ σ e (.bool b)) (h2 : b = true → EvB G K ρ σ .And (r :: es) c) : EvB G K ρ σ .And (e :: r :: es) (b && c) := fun A env F s E p k => by
  show wpAny _ A (do
      let v ← eval e env
      standAt p
      let b ← holding [v] (truthy v)
      match BoolOp.And, b with
      | .And, false | .Or, true => pure v
      | _, _ => boolOp p .And (evalEach (r :: es) env)) _ _ s
  refine wpAny_bind (h.bind k fun v F₁ s₁ S₁ r₁ k₁ => wpAny_bind (wpAny_standAt (wpAny_bind (wpAny_holding ?_))))
  cases show v = .bool b from r₁
  refine wpAny_truthy_bool ?_
  cases b
  · exact wpAny_pure ⟨F₁, S₁, rfl⟩
  · exact wp_from S₁ (h2 rfl A env F₁ s₁ E p k₁)
theorem evb_or (h : Ev G K ρ σ e (.bool b)) (h2 : b = false → EvB G K ρ σ .Or (r :: es) c) : EvB G K ρ σ .Or (e :: r :: es) (b || c) := fun A env F s E p k => by
  show wpAny _ A (do
      let v ← eval e env
      standAt p
      let b ← holding [v] (truthy v)
      match BoolOp.Or, b with
      | .And, false | .Or, true => pure v
      | _, _ => boolOp p .Or (evalEach (r :: es) env)) _ _ s
  refine wpAny_bind (h.bind k fun v F₁ s₁ S₁ r₁ k₁ => wpAny_bind (wpAny_standAt (wpAny_bind (wpAny_holding ?_))))
  cases show v = .bool b from r₁
  refine wpAny_truthy_bool ?_
  cases b
  · exact wp_from S₁ (h2 rfl A env F₁ s₁ E p k₁)
  · exact wpAny_pure ⟨F₁, S₁, rfl⟩

/-! ## several values; displays -/
def EvL (G : Gl) (K : Sx) (ρ : List V) (σ : Ow) (es : List PySem.Expr) (xs : List V) : Prop :=
  ∀ A env F s E, EOk G K A env ρ σ F s → wpAny G.M A (spliced (es.map fun e => (false, eval e env))) (PL F s xs) E s
theorem evl_nil : EvL G K ρ σ [] [] := fun A env F s E k => Calls.spliced_nil ⟨F, .refl k.rm.sub, rfl⟩
theorem evl_cons (h : Ev G K ρ σ e x) (h2 : EvL G K ρ σ es xs) : EvL G K ρ σ (e :: es) (x :: xs) := fun A env F s E k =>
  Calls.spliced_cons (h.bind k fun v F₁ s₁ S₁ r₁ k₁ => wpAny_mono (h2 A env F₁ s₁ E k₁) (fun vs s₂ q => q.casesOn fun F₂ S₂ r₂ => ⟨F₂, S₁.trans S₂, v, vs, rfl, r₁.mono S₂.up, r₂⟩) fun _ _ e => e)
theorem EvL.bind {A : Around} {env : Env} {F : Fz} {s : Shared} {E : Value → Shared → Prop} {R : List Value → Shared → Prop} (h : EvL G K ρ σ es xs) (k₀ : EOk G K A env ρ σ F s) (k : ∀ v F' s', St N0 F s F' s' → RelL F' xs v → EOk G K A env ρ σ F' s' → R v s') :
    wpAny G.M A (spliced (es.map fun e => (false, eval e env))) R E s :=
  wpAny_mono (h A env F s E k₀) (fun v s' q => q.casesOn fun F' S r => k v F' s' S r (k₀.step S)) fun _ _ e => e
def notStar : PySem.Expr → Bool
  | .Starred .. => false
  | _ => true
theorem starEach_cons (h : notStar e = true) (es : List PySem.Expr) (env : Env) : starEach (e :: es) env = (false, eval e env) :: starEach es env := by
  cases e <;> first | rfl | cases h
theorem back_star (pos : Pos) (env : Env) : ∀ {es : List PySem.Expr}, es.all notStar = true → backTo pos (starEach es env) = es.map fun e => (false, eval e env)
  | [], _ => rfl
  | e :: es, h => by
    have h := Bool.and_eq_true_iff.mp h
    rw [starEach_cons h.1]
    show (false, _) :: backTo pos (starEach es env) = _
    rw [back_star pos env h.2]; rfl
theorem add_up {F : Fz} {s : Shared} {A : Around} (R : Rm G A F s) {ob : Obj} : ∀ a o, F a = some o → F.add s.heap.objs.size ob a = some o := fun a o e =>
  (if_neg (by rintro rfl; exact nomatch (size_none s.heap).symm.trans (R.sub _ _ e))).trans e
theorem newList_ok {A : Around} {F : Fz} {s : Shared} {E : Value → Shared → Prop} {vs : List Value} (R : Rm G A F s) (r : RelL F xs vs) (hl : xs.length ≤ sizeLine) : wpAny G.M A (newList vs) (PV F s (.lst xs)) E s :=
  wpAny_newObj_type (pv_push R (lobj vs 0) s.toks ⟨_, vs, rfl, ⟨0, Fz.add_self⟩, r.mono (add_up R)⟩ rfl) (by show vs.toArray.size ≤ _; rw [List.size_toArray, r.length]; exact hl)
theorem newTuple_ok {A : Around} {F : Fz} {s : Shared} {E : Value → Shared → Prop} {vs : List Value} (R : Rm G A F s) (r : RelL F xs vs) (hl : xs.length ≤ sizeLine) : wpAny G.M A (newTuple vs) (PV F s (.tup xs)) E s :=
  wpAny_newObj_type (pv_push R (tobj vs 0) s.toks ⟨_, vs, rfl, ⟨0, Fz.add_self⟩, r.mono (add_up R)⟩ rfl) (by show vs.toArray.size ≤ _; rw [List.size_toArray, r.length]; exact hl)
theorem ev_list (h : EvL G K ρ σ es xs) (hl : xs.length ≤ sizeLine) (hs : es.all notStar = true := by rfl) : Ev G K ρ σ (.List es p) (.lst xs) := fun A env F s E k => by
  refine List_ ?_
  rw [back_star p env hs]
  exact h.bind k fun vs F₁ s₁ S₁ r k₁ => wp_from S₁ (newList_ok k₁.rm r hl)
theorem ev_tuple {n : Nat} (h : EvL G K ρ σ es xs) (hl : xs.length ≤ sizeLine) (hs : es.all notStar = true := by rfl) : Ev G K ρ σ (.Tuple es n p) (.tup xs) := fun A env F s E k => by
  refine Tuple_ ?_
  rw [back_star p env hs]
  exact h.bind k fun vs F₁ s₁ S₁ r k₁ => wp_from S₁ (newTuple_ok k₁.rm r hl)

/-! ## subscripts -/
def notSlice : PySem.Expr → Bool
  | .Slice .. => false
  | _ => true
theorem subscripted_plain {slice : PySem.Expr} (h : notSlice slice = true) (o i : Value) : subscripted slice false o i = operate [o, i] (getItem o i) := by
  cases slice <;> first | rfl | cases h
theorem ev_idx {T id : String} (hl : typeLookup (.type T) "__getitem__" = pure (some (.builtin id))) (h1 : Ev G K ρ σ l x) (h2 : Ev G K ρ σ r (.int i)) (hn : notSlice r = true)
    (h : ∀ A env F s E v t, EOk G K A env ρ σ F s → Rel F x v → s.TypeIs v T ∧ wpAny G.M A (getItem v (.int i t)) (PV F s z) E s) : Ev G K ρ σ (.Subscript l r p) z :=
  fun A env F s E k => Subscript_ (h1.bind k fun v F₁ s₁ S₁ r₁ k₁ => h2.bind k₁ fun w F₂ s₂ S₂ r₂ k₂ => r₂.elim fun t e => by
    subst e
    have hw := h A env F₂ s₂ E v t k₂ (r₁.mono S₂.up)
    exact tail_any hw.1 hl (wp_from (S₁.trans S₂) hw.2) (subscripted_plain hn _ _))
theorem ev_idxs (h1 : Ev G K ρ σ l (.str a)) (h2 : Ev G K ρ σ r (.int i)) (h0 : 0 ≤ i) (hi : i < a.length) (hz : a.length < 2 ^ 62) (hn : notSlice r = true := by rfl) : Ev G K ρ σ (.Subscript l r p) (.str [a.getD i.toNat 0]) := by
  refine ev_idx F.slot_str_getitem.lookup h1 h2 hn ?_
  rintro A env F s E _ t k ⟨u, rfl⟩
  refine ⟨typeIs_str s _ u, P.getItem_str (c := a.getD i.toNat 0) ?_ ?_ (pv_tok k.rm _ ⟨_, rfl⟩)⟩
  · rw [decide_eq_false (by (first | lia | omega)), decide_eq_false (by (first | lia | omega))]; rfl
  · rw [length_str, seqIndex_of h0 hi]
    have : i.toNat < a.length := by (first | lia | omega)
    simp [this]
theorem ev_idxl (h1 : Ev G K ρ σ l (.lst xs)) (h2 : Ev G K ρ σ r (.int i)) (h0 : 0 ≤ i) (hi : i < 2 ^ 62) (hz : xs[i.toNat]? = some z) (hn : notSlice r = true := by rfl) : Ev G K ρ σ (.Subscript l r p) z :=
  ev_idx slot_list_getitem.lookup h1 h2 hn fun A env F s E v t k rv => by
    obtain ⟨b, vs, rfl, hl, _, rl⟩ := lst_list k.rm rv
    exact ⟨hl.typeIs, (rl.get hz).elim fun v' q => wpAny_getItem_list hl h0 (Int.lt_trans hi (by decide)) (by simpa using q.1) (pv_same k q.2)⟩
theorem last_get {vs : List Value} (hz : xs.getLast? = some z) {F : Fz} (rl : RelL F xs vs) : 1 ≤ vs.length ∧ ∃ v, vs[((-1 : Int) + vs.length).toNat]? = some v ∧ Rel F z v := by
  rw [List.getLast?_eq_getElem?] at hz
  have h1 := (List.getElem?_eq_some_iff.mp hz).1
  have e := rl.length
  refine ⟨by (first | lia | omega), ?_⟩
  rw [show ((-1 : Int) + vs.length).toNat = xs.length - 1 by (first | lia | omega)]
  exact rl.get hz
theorem ev_idxl_last (h1 : Ev G K ρ σ l (.lst xs)) (h2 : Ev G K ρ σ r (.int (-1))) (hl : xs.length < 2 ^ 62) (hz : xs.getLast? = some z) (hn : notSlice r = true := by rfl) : Ev G K ρ σ (.Subscript l r p) z :=
  ev_idx slot_list_getitem.lookup h1 h2 hn fun A env F s E v t k rv => by
    obtain ⟨b, vs, rfl, hl, hn, rl⟩ := lst_list k.rm rv
    obtain ⟨h1, v', hv, r'⟩ := last_get hz rl
    exact ⟨hl.typeIs, wpAny_getItem_list_neg hl (by decide) (by rw [List.size_toArray]; (first | lia | omega)) (by decide) (by rw [List.size_toArray]; simpa using hv) (pv_same k r')⟩
theorem own_list {A : Around} {env : Env} {F : Fz} {s : Shared} {b : Addr} (k : EOk G K A env ρ σ F s) (h : σ b = some xs) : ∃ vs, s.heap.IsList b (List.toArray vs) ∧ RelL F xs vs :=
  (k.own b xs h).2.imp fun _ q => q.elim fun n q => ⟨⟨_, q.1, rfl, n, rfl⟩, q.2⟩
theorem ev_idxo_last {b : Addr} (h1 : Ev G K ρ σ l (.ref b)) (h2 : Ev G K ρ σ r (.int (-1))) (hb : σ b = some xs) (hz : xs.getLast? = some z) (hn : notSlice r = true := by rfl) : Ev G K ρ σ (.Subscript l r p) z :=
  ev_idx slot_list_getitem.lookup h1 h2 hn fun A env F s E v t k rv => by
    cases show v = .ref b from rv
    obtain ⟨vs, hl, rl⟩ := own_list k hb
    obtain ⟨h1, v', hv, r'⟩ := last_get hz rl
    exact ⟨hl.typeIs, wpAny_getItem_list_neg hl (by decide) (by rw [List.size_toArray]; (first | lia | omega)) (by decide) (by rw [List.size_toArray]; simpa using hv) (pv_same k r')⟩
theorem ev_idxc (h1 : Ev G K ρ σ l (.scr xs)) (h2 : Ev G K ρ σ r (.int i)) (h0 : 0 ≤ i) (hi : i < 2 ^ 62) (hz : xs[i.toNat]? = some z) (hn : notSlice r = true := by rfl) : Ev G K ρ σ (.Subscript l r p) z :=
  ev_idx slot_list_getitem.lookup h1 h2 hn fun A env F s E v t k rv => by
    obtain ⟨b, vs, rfl, ⟨o, ho, q⟩, rl⟩ := rv
    have hl : s.heap.IsList b vs.toArray := ⟨o, k.rm.sub _ _ ho, q⟩
    exact ⟨hl.typeIs, (rl.get hz).elim fun v' q => wpAny_getItem_list hl h0 (Int.lt_trans hi (by decide)) (by simpa using q.1) (pv_same k q.2)⟩
theorem ev_idxt (h1 : Ev G K ρ σ l (.tup xs)) (h2 : Ev G K ρ σ r (.int i)) (h0 : 0 ≤ i) (hi : i < 2 ^ 62) (hz : xs[i.toNat]? = some z) (hn : notSlice r = true := by rfl) : Ev G K ρ σ (.Subscript l r p) z :=
  ev_idx slot_tuple_getitem.lookup h1 h2 hn fun A env F s E v t k rv => by
    obtain ⟨b, vs, rfl, ⟨n, ho⟩, rl⟩ := rv
    have ht : IsTup s.heap b vs.toArray := ⟨_, k.rm.sub _ _ ho, rfl, n, rfl⟩
    have h1 := (List.getElem?_eq_some_iff.mp hz).1
    exact ⟨ht.typeIs, (rl.get hz).elim fun v' q => getItem_tuple ht (by (first | lia | omega)) (by (first | lia | omega)) (by rw [List.size_toArray, rl.length]; exact seqIndex_of h0 (by (first | lia | omega))) (by simpa using q.1) (pv_same k q.2)⟩
/-! ## slices of texts -/
def clampI (o : Option Int) (dflt n : Nat) : Nat :=
  match o with
  | none => dflt
  | some i => if i < 0 then (i + n).toNat else min i.toNat n
def slice {α : Type} (xs : List α) (lo hi : Option Int) : List α := (xs.take (clampI hi xs.length xs.length)).drop (clampI lo 0 xs.length)
theorem clampI_le (o : Option Int) (d n : Nat) (hd : d ≤ n) : clampI o d n ≤ n := by
  unfold clampI
  split
  · exact hd
  · split <;> (first | lia | omega)
theorem strIdx (lo hi : Option Int) (n : Nat) : Builtin.Str.strSliceIndices lo hi 1 n = (List.range (clampI hi n n - clampI lo 0 n)).map (clampI lo 0 n + ·) := by
  rw [← sliceRange_one]
  unfold Builtin.Str.strSliceIndices
  simp only [show (1 : Int) > 0 by decide, if_true]
  congr 1
  · cases lo with
    | none => rfl
    | some i => simp only [clampI]; split <;> (first | lia | omega)
  · cases hi with
    | none => rfl
    | some i => simp only [clampI]; split <;> (first | lia | omega)
theorem slice_full {α : Type} (xs : List α) (lo hi : Option Int) (h : clampI hi xs.length xs.length - clampI lo 0 xs.length = xs.length) : slice xs lo hi = xs := by
  have h1 := clampI_le hi xs.length xs.length (Nat.le_refl _)
  have h2 := clampI_le lo 0 xs.length (Nat.zero_le _)
  unfold slice
  by_cases h0 : xs.length = 0
  · rw [List.eq_nil_of_length_eq_zero h0]; simp
  · rw [show clampI lo 0 xs.length = 0 by (first | lia | omega), show clampI hi xs.length xs.length = xs.length by (first | lia | omega)]; simp
theorem part_val {vl : Value} {o : Option Int} (p : IsPart vl o) : ∃ l : Option (Int × Tok), vl = partValue l ∧ l.map (·.1) = o := by
  cases p with
  | none => exact ⟨none, rfl, rfl⟩
  | int i t => exact ⟨some (i, t), rfl, rfl⟩
theorem slice_str_ok {A : Around} {F : Fz} {s : Shared} {E : Value → Shared → Prop} {t : Tok} {sl : Addr} {vl vu : Value} {lo hi : Option Int} (R : Rm G A F s) (pl : IsPart vl lo) (pu : IsPart vu hi)
    (hs : ∃ o, s.heap.get? sl = some o ∧ o.cls = .type "slice" ∧ o.data = .fields #[vl, vu, .none]) (hl : a.length ≤ sizeLine) : wpAny G.M A (getItem (.str ⟨a.toArray⟩ t) (.ref sl)) (PV F s (.str (slice a lo hi))) E s := by
  obtain ⟨l, rfl, el⟩ := part_val pl
  obtain ⟨u, rfl, eu⟩ := part_val pu
  refine wpAny_getItem_str_slice (l := l) (u := u) (st := none) hs rfl ?_
  have hp : slicePicked ⟨a.toArray⟩ l u none = (List.range (clampI hi a.length a.length - clampI lo 0 a.length)).map (clampI lo 0 a.length + ·) := by
    unfold slicePicked
    rw [el, eu, length_str]
    exact strIdx lo hi a.length
  unfold sliceMade
  rw [hp, length_str]
  split
  · rename_i hc
    rw [slice_full a lo hi (by simpa using hc)]
    exact pv_tok R s.toks ⟨_, rfl⟩
  · have e : ((List.range (clampI hi a.length a.length - clampI lo 0 a.length)).map (clampI lo 0 a.length + ·)).filterMap (fun x => (⟨a.toArray⟩ : Str).cps[x]?) = slice a lo hi := by
      have := pick_run a.toArray (clampI lo 0 a.length) (clampI hi a.length a.length - clampI lo 0 a.length)
      unfold slice
      rw [List.drop_take]
      simpa using this
    rw [e]
    refine made_str R (Nat.le_trans ?_ hl)
    unfold slice
    rw [List.length_drop, List.length_take]
    exact Nat.le_trans (Nat.sub_le _ _) (Nat.min_le_right _ _)
def EvO (G : Gl) (K : Sx) (ρ : List V) (σ : Ow) (e : Option PySem.Expr) (o : Option Int) : Prop :=
  ∀ A env F s E R, EOk G K A env ρ σ F s → (∀ v F' s', St N0 F s F' s' → IsPart v o → EOk G K A env ρ σ F' s' → R v s') → wpAny G.M A (evalPart e env) R E s
theorem evo_none : EvO G K ρ σ none none := fun A env F s E R k h => wpAny_evalPart_none (h _ F s (.refl k.rm.sub) .none k)
theorem evo_some (h1 : Ev G K ρ σ e (.int i)) : EvO G K ρ σ (some e) (some i) := fun A env F s E R k h =>
  wpAny_evalPart_some (h1.bind k fun v F₁ s₁ S₁ r₁ k₁ => r₁.elim fun t e => h v F₁ s₁ S₁ (e ▸ .int i t) k₁)
theorem ev_slc {lo hi : Option PySem.Expr} {m n : Option Int} (h1 : Ev G K ρ σ l (.str a)) (h2 : EvO G K ρ σ lo m) (h3 : EvO G K ρ σ hi n) (hl : a.length ≤ sizeLine) : Ev G K ρ σ (.Subscript l (.Slice lo hi none q) p) (.str (slice a m n)) :=
  fun A env F₀ s E k => Subscript_ (h1.bind k fun v F₁ s₁ S₁ r₁ k₁ => wpAny_Slice (h2 A env F₁ s₁ E _ k₁ fun vl F₂ s₂ S₂ pl k₂ => h3 A env F₂ s₂ E _ k₂ fun vu F₃ s₃ S₃ pu k₃ => wpAny_evalPart_none (r₁.elim fun t e => by
    subst e
    have S₄ : St N0 F₃ s₃ F₃ { s₃ with heap := s₃.heap.push { cls := .type "slice", data := .fields #[vl, vu, .none] } } := St.grow k₃.rm.sub fun _ _ e => Heap.get?_push_of_some _ e
    refine tail_any (ops := [.ref s₃.heap.objs.size, .str ⟨a.toArray⟩ t]) (typeIs_str _ _ t) F.slot_str_getitem.lookup ?_ rfl
    exact wp_from (((S₁.trans S₂).trans S₃).trans S₄) (slice_str_ok (k₃.rm.step S₄) pl pu ⟨_, Heap.get?_push_size _ rfl, rfl, rfl⟩ hl))))
end
end Mine

set_option autoImplicit false
set_option linter.all false
set_option genSizeOf false
set_option genInjectivity false
set_option maxRecDepth 100000
namespace Mine
open PySem PyProof.Rows

section
variable {M : Model} {A : Around} {E : Value → Shared → Prop} {s : Shared}
theorem evalArgs_list {f : Value} {args : List (Bool × Sem Value)} {Q : Args → Shared → Prop} (hp : args.all (fun x => !x.1) = true) (h : wpAny M A (spliced args) (fun vs s' => Q ⟨vs, []⟩ s') E s) :
    wpAny M A (evalArgs f true args []) Q E s := by
  cases args with
  | nil =>
    unfold evalArgs
    show wpAny M A (spliced [] >>= _) Q E s
    exact wpAny_bind (wpAny_mono h (fun vs s' h' => wpAny_bind (wpAny_pure (wpAny_holding (wpAny_bind (wpAny_pure (wpAny_bind (wpAny_pure (wpAny_pure h')))))))) fun _ _ x => x)
  | cons x rest =>
    obtain ⟨b, t⟩ := x
    cases b with
    | true => exact nomatch hp
    | false => exact Calls.evalArgs_plain h
end
theorem all_false (es : List PySem.Expr) (env : Env) : (es.map fun e => (false, eval e env)).all (fun x => !x.1) = true := by simp
theorem any_false (es : List PySem.Expr) (env : Env) : (es.map fun e => (false, eval e env)).any (·.1) = false := by simp

section
variable {G : Gl} {K : Sx} {ρ : List V} {σ : Ow} {e l r : PySem.Expr} {es : List PySem.Expr} {x y z : V} {p q : Pos} {b c : Bool} {i j : Int} {a a' : List Nat} {xs ys : List V} {A : Around} {env : Env} {F : Fz} {s : Shared} {E : Value → Shared → Prop} {f : Str}

/-! ## calls of built-in functions -/
theorem ev_cb (n : Nat) {id : String} (hb : blts[n]? = some (f, .builtin id)) (hg : globOK K f = true) (hs : es.all notStar = true) (ha : EvL G K ρ σ es xs)
    (h : ∀ A env F s E vs, EOk G K A env ρ σ F s → RelL F xs vs → wpAny G.M A (call (.builtin id) vs) (PV F s z) E s) : Ev G K ρ σ (.Call (.Name f q) es [] p) z := fun A env F s E k => by
  refine wpAny_Call_NameR (name_global k (.inr (k.rm.go.blt n f _ hb)) hg ?_)
  rw [back_star p env hs]
  exact Calls.callWith_builtin (any_false es env) (evalArgs_list (all_false es env) (ha.bind k fun vs F₁ s₁ S₁ r₁ k₁ => wp_from S₁ (h A env F₁ s₁ E vs k₁ r₁)))
theorem ev_ct (n : Nat) {T : String} (hb : blts[n]? = some (f, .type T)) (hg : globOK K f = true) (hs : es.all notStar = true) (ha : EvL G K ρ σ es xs)
    (h : ∀ A env F s E vs, EOk G K A env ρ σ F s → RelL F xs vs → wpAny G.M A (call (.type T) vs) (PV F s z) E s) : Ev G K ρ σ (.Call (.Name f q) es [] p) z := fun A env F s E k => by
  refine wpAny_Call_NameR (name_global k (.inr (k.rm.go.blt n f _ hb)) hg ?_)
  rw [back_star p env hs]
  exact PyProof.Rows.callWith_type (any_false es env) (evalArgs_list (all_false es env) (ha.bind k fun vs F₁ s₁ S₁ r₁ k₁ => wp_from S₁ (h A env F₁ s₁ E vs k₁ r₁)))
theorem rel1 {vs : List Value} (r : RelL F [x] vs) : ∃ v, vs = [v] ∧ Rel F x v := r.imp fun v q => q.elim fun ws q => ⟨q.1.trans (congrArg _ q.2.2), q.2.1⟩
theorem ev_len (h : ∀ A env F s E v, EOk G K A env ρ σ F s → Rel F x v → wpAny G.M A (call (.builtin "len") [v]) (PV F s z) E s) (h1 : Ev G K ρ σ e x) (hs : notStar e = true) (hg : globOK K "len" = true) : Ev G K ρ σ (.Call (.Name "len" q) [e] [] p) z :=
  ev_cb 0 rfl hg (by rw [List.all_cons, hs]; rfl) (evl_cons h1 evl_nil) fun A env F s E vs k r => (rel1 r).elim fun v q => q.1 ▸ h A env F s E v k q.2
theorem ev_lens (h1 : Ev G K ρ σ e (.str a)) (hl : a.length < 2 ^ 62) (hs : notStar e = true := by rfl) (hg : globOK K "len" = true := by decide +kernel) : Ev G K ρ σ (.Call (.Name "len" q) [e] [] p) (.int a.length) :=
  ev_len (by rintro A env F s E _ k ⟨t, rfl⟩; exact P.len_str (by rw [length_str]; (first | lia | omega)) (pv_tok k.rm _ ⟨_, rfl⟩)) h1 hs hg
theorem len_of {b : Addr} {vs : List Value} (k : EOk G K A env ρ σ F s) (hl : s.heap.IsList b vs.toArray) (hn : vs.length = xs.length) (h : xs.length < 2 ^ 62) : wpAny G.M A (call (.builtin "len") [.ref b]) (PV F s (.int xs.length)) E s :=
  len_list hl (by rw [List.size_toArray]; (first | lia | omega)) (by rw [List.size_toArray, hn]; exact pv_tok k.rm _ ⟨_, rfl⟩)
theorem ev_lenl (h1 : Ev G K ρ σ e (.lst xs)) (hl : xs.length < 2 ^ 62) (hs : notStar e = true := by rfl) (hg : globOK K "len" = true := by decide +kernel) : Ev G K ρ σ (.Call (.Name "len" q) [e] [] p) (.int xs.length) :=
  ev_len (fun A env F s E v k r => by obtain ⟨b, vs, rfl, h, hn, _⟩ := lst_list k.rm r; exact len_of k h hn hl) h1 hs hg
theorem ev_leno {b : Addr} (h1 : Ev G K ρ σ e (.ref b)) (hb : σ b = some xs) (hl : xs.length < 2 ^ 62) (hs : notStar e = true := by rfl) (hg : globOK K "len" = true := by decide +kernel) : Ev G K ρ σ (.Call (.Name "len" q) [e] [] p) (.int xs.length) :=
  ev_len (fun A env F s E v k r => by cases show v = .ref b from r; obtain ⟨vs, h, hn⟩ := own_list k hb; exact len_of k h hn.length hl) h1 hs hg
theorem ev_lenc (h1 : Ev G K ρ σ e (.scr xs)) (hl : xs.length < 2 ^ 62) (hs : notStar e = true := by rfl) (hg : globOK K "len" = true := by decide +kernel) : Ev G K ρ σ (.Call (.Name "len" q) [e] [] p) (.int xs.length) :=
  ev_len (fun A env F s E v k r => by obtain ⟨b, vs, rfl, ⟨o, ho, t⟩, rl⟩ := r; exact len_of k ⟨o, k.rm.sub _ _ ho, t⟩ rl.length hl) h1 hs hg
theorem ev_lent (h1 : Ev G K ρ σ e (.tup xs)) (hl : xs.length < 2 ^ 62) (hs : notStar e = true := by rfl) (hg : globOK K "len" = true := by decide +kernel) : Ev G K ρ σ (.Call (.Name "len" q) [e] [] p) (.int xs.length) :=
  ev_len (fun A env F s E v k r => by
    obtain ⟨b, vs, rfl, ⟨n, ho⟩, rl⟩ := r
    have ht : IsTup s.heap b vs.toArray := ⟨_, k.rm.sub _ _ ho, rfl, n, rfl⟩
    exact len_tuple ht (by rw [List.size_toArray, rl.length]; (first | lia | omega)) (by rw [List.size_toArray, rl.length]; exact pv_tok k.rm _ ⟨_, rfl⟩)) h1 hs hg
theorem ev_range1 (h1 : Ev G K ρ σ e (.int i)) (h2 : -(2 ^ 62) ≤ i) (h3 : i < 2 ^ 62) (hs : notStar e = true := by rfl) (hg : globOK K "range" = true := by decide +kernel) : Ev G K ρ σ (.Call (.Name "range" q) [e] [] p) (.rng 0 i) :=
  ev_ct 2 rfl hg (by rw [List.all_cons, hs]; rfl) (evl_cons h1 evl_nil) (by
    rintro A env F s E _ k ⟨_, _, rfl, ⟨t, rfl⟩, rfl⟩
    exact call_range_1 (pv_push k.rm _ _ ⟨⟨by decide, by decide, h2, h3⟩, _, _, _, _, rfl, Fz.add_self⟩ rfl))
theorem ev_range2 (h0 : Ev G K ρ σ l (.int j)) (h1 : Ev G K ρ σ e (.int i)) (h4 : -(2 ^ 62) ≤ j) (h5 : j < 2 ^ 62) (h2 : -(2 ^ 62) ≤ i) (h3 : i < 2 ^ 62) (hs : notStar l = true := by rfl) (hs' : notStar e = true := by rfl) (hg : globOK K "range" = true := by decide +kernel) : Ev G K ρ σ (.Call (.Name "range" q) [l, e] [] p) (.rng j i) :=
  ev_ct 2 rfl hg (by rw [List.all_cons, hs, List.all_cons, hs']; rfl) (evl_cons h0 (evl_cons h1 evl_nil)) (by
    rintro A env F s E _ k ⟨_, _, rfl, ⟨t, rfl⟩, _, _, rfl, ⟨u, rfl⟩, rfl⟩
    exact call_range_2 (pv_push k.rm _ _ ⟨⟨h4, h5, h2, h3⟩, _, _, _, _, rfl, Fz.add_self⟩ rfl))
theorem tuple_of {b : Addr} {vs : List Value} (k : EOk G K A env ρ σ F s) (hu : s.heap.IsList b vs.toArray) (rl : RelL F xs vs) (h : xs.length ≤ sizeLine) : wpAny G.M A (call (.type "tuple") [.ref b]) (PV F s (.tup xs)) E s := by
  refine call_tuple_list hu (fun h' hk => ?_) (by rw [List.size_toArray, rl.length]; exact h)
  have S : St N0 F s F { s with heap := h', toks := s.toks } := .grow k.rm.sub hk
  exact PV.from S (pv_push (k.rm.step S) (tobj vs 0) s.toks ⟨_, vs, rfl, ⟨0, Fz.add_self⟩, rl.mono (add_up (k.rm.step S))⟩ rfl)
theorem ev_tuplo {b : Addr} (h1 : Ev G K ρ σ e (.ref b)) (hb : σ b = some xs) (hl : xs.length ≤ sizeLine) (hs : notStar e = true := by rfl) (hg : globOK K "tuple" = true := by decide +kernel) : Ev G K ρ σ (.Call (.Name "tuple" q) [e] [] p) (.tup xs) :=
  ev_ct 5 rfl hg (by rw [List.all_cons, hs]; rfl) (evl_cons h1 evl_nil) (fun A env F s E vs k r => by
    obtain ⟨v, rfl, r₀⟩ := rel1 r
    cases (show v = .ref b from r₀)
    obtain ⟨vs, h, hn⟩ := own_list k hb; exact tuple_of k h hn hl)
theorem ev_min2 (h0 : Ev G K ρ σ l (.int j)) (h1 : Ev G K ρ σ e (.int i)) (hs : notStar l = true := by rfl) (hs' : notStar e = true := by rfl) (hg : globOK K "min" = true := by decide +kernel) : Ev G K ρ σ (.Call (.Name "min" q) [l, e] [] p) (.int (min j i)) :=
  ev_cb 3 rfl hg (by rw [List.all_cons, hs, List.all_cons, hs']; rfl) (evl_cons h0 (evl_cons h1 evl_nil)) (by
    rintro A env F s E _ k ⟨_, _, rfl, ⟨t, rfl⟩, _, _, rfl, ⟨u, rfl⟩, rfl⟩
    refine min_two_ints k.rm.handled fun h' tk hk => ⟨F, .grow k.rm.sub hk, ?_⟩
    split
    · exact ⟨_, by rw [Int.min_eq_right (by (first | lia | omega))]⟩
    · exact ⟨_, by rw [Int.min_eq_left (by (first | lia | omega))]⟩)
theorem ev_int1 (h1 : Ev G K ρ σ e (.bool b)) (hs : notStar e = true := by rfl) (hg : globOK K "int" = true := by decide +kernel) : Ev G K ρ σ (.Call (.Name "int" q) [e] [] p) (.int (if b then 1 else 0)) :=
  ev_ct 4 rfl hg (by rw [List.all_cons, hs]; rfl) (evl_cons h1 evl_nil) (fun A env F s E vs k r => by
    obtain ⟨v, rfl, r₀⟩ := rel1 r
    cases (show v = .bool b from r₀)
    exact call_int_bool (pv_tok k.rm _ ⟨_, rfl⟩))

/-! ## isinstance -/
def Inst (G : Gl) (T : String) (x : V) (b : Bool) : Prop := ∀ A F s E v, Rm G A F s → Rel F x v → wpAny G.M A (call (.builtin "isinstance") [v, .type T]) (PV F s (.bool b)) E s
theorem ev_inst (n : Nat) {T : String} {t : Str} {pt : Pos} (h : Inst G T x b) (h1 : Ev G K ρ σ e x) (hb : blts[n]? = some (t, .type T) := by rfl) (hs : notStar e = true := by rfl) (hg : globOK K "isinstance" = true := by decide +kernel) (ht : globOK K t = true := by decide +kernel) : Ev G K ρ σ (.Call (.Name "isinstance" q) [e, .Name t pt] [] p) (.bool b) :=
  ev_cb 1 rfl hg (by rw [List.all_cons, hs]; rfl) (evl_cons h1 (evl_cons (ev_blt n hb ht) evl_nil)) (by
    rintro A env F s E _ k ⟨v, _, rfl, r, _, _, rfl, rfl, rfl⟩
    exact h A F s E v k.rm r)
theorem is_none_str : Inst G "str" (.none) false := by rintro A F s E _ R rfl; exact IsiPair.NoneType_str (pv_tok R _ rfl)
theorem is_bool_str : Inst G "str" (.bool c) false := by rintro A F s E _ R rfl; exact IsiPair.bool_str (pv_tok R _ rfl)
theorem is_int_str : Inst G "str" (.int i) false := by rintro A F s E _ R ⟨_, rfl⟩; exact IsiPair.int_str (pv_tok R _ rfl)
theorem is_str_str : Inst G "str" (.str a) true := by rintro A F s E _ R ⟨_, rfl⟩; exact IsiPair.str_str (pv_tok R s.toks rfl)
theorem is_tup_str : Inst G "str" (.tup xs) false := by rintro A F s E _ R ⟨_, _, rfl, ⟨_, h⟩, _⟩; exact IsiPair.tuple_str (R.sub _ _ h) rfl (pv_tok R _ rfl)
theorem is_lst_str : Inst G "str" (.lst xs) false := by rintro A F s E _ R ⟨_, _, rfl, ⟨_, h⟩, _⟩; exact IsiPair.list_str (R.sub _ _ h) rfl (pv_tok R _ rfl)
theorem is_none_int : Inst G "int" (.none) false := by rintro A F s E _ R rfl; exact IsiPair.NoneType_int (pv_tok R _ rfl)
theorem is_bool_int : Inst G "int" (.bool c) true := by rintro A F s E _ R rfl; exact IsiPair.bool_int (pv_tok R s.toks rfl)
theorem is_int_int : Inst G "int" (.int i) true := by rintro A F s E _ R ⟨_, rfl⟩; exact IsiPair.int_int (pv_tok R s.toks rfl)
theorem is_str_int : Inst G "int" (.str a) false := by rintro A F s E _ R ⟨_, rfl⟩; exact IsiPair.str_int (pv_tok R _ rfl)
theorem is_tup_int : Inst G "int" (.tup xs) false := by rintro A F s E _ R ⟨_, _, rfl, ⟨_, h⟩, _⟩; exact IsiPair.tuple_int (R.sub _ _ h) rfl (pv_tok R _ rfl)
theorem is_lst_int : Inst G "int" (.lst xs) false := by rintro A F s E _ R ⟨_, _, rfl, ⟨_, h⟩, _⟩; exact IsiPair.list_int (R.sub _ _ h) rfl (pv_tok R _ rfl)
theorem is_none_bool : Inst G "bool" (.none) false := by rintro A F s E _ R rfl; exact IsiPair.NoneType_bool (pv_tok R _ rfl)
theorem is_bool_bool : Inst G "bool" (.bool c) true := by rintro A F s E _ R rfl; exact IsiPair.bool_bool (pv_tok R s.toks rfl)
theorem is_int_bool : Inst G "bool" (.int i) false := by rintro A F s E _ R ⟨_, rfl⟩; exact IsiPair.int_bool (pv_tok R _ rfl)
theorem is_str_bool : Inst G "bool" (.str a) false := by rintro A F s E _ R ⟨_, rfl⟩; exact IsiPair.str_bool (pv_tok R _ rfl)
theorem is_tup_bool : Inst G "bool" (.tup xs) false := by rintro A F s E _ R ⟨_, _, rfl, ⟨_, h⟩, _⟩; exact IsiPair.tuple_bool (R.sub _ _ h) rfl (pv_tok R _ rfl)
theorem is_lst_bool : Inst G "bool" (.lst xs) false := by rintro A F s E _ R ⟨_, _, rfl, ⟨_, h⟩, _⟩; exact IsiPair.list_bool (R.sub _ _ h) rfl (pv_tok R _ rfl)
theorem is_none_tuple : Inst G "tuple" (.none) false := by rintro A F s E _ R rfl; exact IsiPair.NoneType_tuple (pv_tok R _ rfl)
theorem is_bool_tuple : Inst G "tuple" (.bool c) false := by rintro A F s E _ R rfl; exact IsiPair.bool_tuple (pv_tok R _ rfl)
theorem is_int_tuple : Inst G "tuple" (.int i) false := by rintro A F s E _ R ⟨_, rfl⟩; exact IsiPair.int_tuple (pv_tok R _ rfl)
theorem is_str_tuple : Inst G "tuple" (.str a) false := by rintro A F s E _ R ⟨_, rfl⟩; exact IsiPair.str_tuple (pv_tok R _ rfl)
theorem is_tup_tuple : Inst G "tuple" (.tup xs) true := by rintro A F s E _ R ⟨_, _, rfl, ⟨_, h⟩, _⟩; exact IsiPair.tuple_tuple (R.sub _ _ h) rfl (pv_tok R s.toks rfl)
theorem is_lst_tuple : Inst G "tuple" (.lst xs) false := by rintro A F s E _ R ⟨_, _, rfl, ⟨_, h⟩, _⟩; exact IsiPair.list_tuple (R.sub _ _ h) rfl (pv_tok R _ rfl)
theorem is_none_list : Inst G "list" (.none) false := by rintro A F s E _ R rfl; exact IsiPair.NoneType_list (pv_tok R _ rfl)
theorem is_bool_list : Inst G "list" (.bool c) false := by rintro A F s E _ R rfl; exact IsiPair.bool_list (pv_tok R _ rfl)
theorem is_int_list : Inst G "list" (.int i) false := by rintro A F s E _ R ⟨_, rfl⟩; exact IsiPair.int_list (pv_tok R _ rfl)
theorem is_str_list : Inst G "list" (.str a) false := by rintro A F s E _ R ⟨_, rfl⟩; exact IsiPair.str_list (pv_tok R _ rfl)
theorem is_tup_list : Inst G "list" (.tup xs) false := by rintro A F s E _ R ⟨_, _, rfl, ⟨_, h⟩, _⟩; exact IsiPair.tuple_list (R.sub _ _ h) rfl (pv_tok R _ rfl)
theorem is_lst_list : Inst G "list" (.lst xs) true := by rintro A F s E _ R ⟨_, _, rfl, ⟨_, h⟩, _⟩; exact IsiPair.list_list (R.sub _ _ h) rfl (pv_tok R s.toks rfl)

/-! ## calls of the text's functions -/
def fnA (mg : Str → Option Value) (f : Str) : Addr := match mg f with | some (.ref a) => a | _ => 0
abbrev Gl.fn (G : Gl) (f : Str) : Addr := fnA G.mg f
structure Pure (G : Gl) (f : Str) (xs : List V) (z : V) : Prop where
  is : ∃ o fd, G.mg f = some (.ref (G.fn f)) ∧ G.B.get? (G.fn f) = some o ∧ o.data = .func fd
  run : ∀ A F s E vs, Rm G A F s → RelL F xs vs → wpAny G.M A (call (.ref (G.fn f)) vs) (PV F s z) E s
theorem ev_call (h : Pure G f xs z) (ha : EvL G K ρ σ es xs) (hs : es.all notStar = true := by rfl) (hg : globOK K f = true := by decide +kernel) : Ev G K ρ σ (.Call (.Name f q) es [] p) z := fun A env F s E k => by
  obtain ⟨o, fd, hf, ho, hfd⟩ := h.is
  refine wpAny_Call_NameR (name_global k (.inl hf) hg ?_)
  rw [back_star p env hs]
  exact Calls.callWith_function (evalArgs_list (all_false es env) (ha.bind k fun vs F₁ s₁ S₁ r₁ k₁ => ⟨⟨k₁.rm.in _ _ ho, hfd⟩, wp_from S₁ (h.run A F₁ s₁ E vs k₁.rm r₁)⟩))

/-! ## startswith -/
theorem starts_eq (a b : List Nat) : Txt.startswith ⟨a.toArray⟩ ⟨b.toArray⟩ = b.isPrefixOf a := by
  unfold Txt.startswith
  rw [length_str, length_str, StrLaws.subAt_eq, length_str]
  simp only [Nat.zero_add, List.drop_zero]
  rw [Bool.eq_iff_iff]
  simp only [Bool.and_eq_true, decide_eq_true_eq, beq_iff_eq, List.isPrefixOf_iff_prefix]
  constructor
  · rintro ⟨_, h⟩; exact ⟨a.drop b.length, by have := List.take_append_drop b.length a; rw [h] at this; exact this⟩
  · rintro ⟨c, rfl⟩; simp
/-- a method of a built-in type, found on the value -/
theorem meth_gen {n : Str} {id : String} {ap : Pos} {Q : Value → Shared → Prop} (h1 : Ev G K ρ σ e x) (hn : ∀ n env t, attributeBase e n env t = t) (hl : (ap.endLine == p.line) = true) (hs : es.all notStar = true) (h8 : es.length < 8) (k : EOk G K A env ρ σ F s)
    (hm : ∀ F s v pl Q, EOk G K A env ρ σ F s → Rel F x v → Q (.builtin id, [v]) s → wpAny G.M A (getMethod v n pl) Q E s)
    (h : ∀ v F₁ s₁, St N0 F s F₁ s₁ → EOk G K A env ρ σ F₁ s₁ → Rel F₁ x v → wpAny G.M A (spliced (es.map fun e => (false, eval e env))) (fun vs s₂ => wpAny G.M A (call (.builtin id) (v :: vs)) Q E s₂) E s₁) : wpAny G.M A (eval (.Call (.Attribute e n ap) es [] p) env) Q E s := by
  rw [arm_eval_Call]
  rw [hn]
  refine wpAny_bind (h1.bind k fun v F₁ s₁ S₁ r₁ k₁ => wpAny_bind (wpAny_standAt ?_))
  rw [back_star p env hs]
  have hform : methodCallForm (es.length + ([] : List Keyword).length) (es.map fun e => (false, eval e env)) (backToKw p (keywordEach [] env)) = true := by
    show ((es.map fun e => (false, eval e env)).all (fun x => !x.1) && true && decide (es.length + 0 + 0 < 30)) = true
    rw [all_false, decide_eq_true (by (first | lia | omega))]; rfl
  have hpos : methodCallPos true e env ap p = pure p := by unfold methodCallPos; simp [hl]
  unfold methodCall
  rw [hform]
  refine wpAny_bind (wpAny_holding (hm F₁ s₁ v _ _ k₁ r₁ (wpAny_bind (wpAny_of_eq hpos ?_))))
  exact Calls.callWith_builtin (any_false es env) (evalArgs_list (all_false es env) (h v F₁ s₁ S₁ k₁ r₁))
theorem meth_ok {n : Str} {id : String} {ap : Pos} {Q : Value → Shared → Prop} (h1 : Ev G K ρ σ e x) (hn : ∀ n env t, attributeBase e n env t = t) (hl : (ap.endLine == p.line) = true) (hs : es.all notStar = true) (h8 : es.length < 8) (ha : EvL G K ρ σ es xs) (k : EOk G K A env ρ σ F s)
    (hm : ∀ F s v pl Q, EOk G K A env ρ σ F s → Rel F x v → Q (.builtin id, [v]) s → wpAny G.M A (getMethod v n pl) Q E s)
    (h : ∀ v vs F₁ s₁, St N0 F s F₁ s₁ → EOk G K A env ρ σ F₁ s₁ → Rel F₁ x v → RelL F₁ xs vs → wpAny G.M A (call (.builtin id) (v :: vs)) Q E s₁) : wpAny G.M A (eval (.Call (.Attribute e n ap) es [] p) env) Q E s :=
  meth_gen h1 hn hl hs h8 k hm fun v F₁ s₁ S₁ k₁ r₁ => ha.bind k₁ fun vs F₂ s₂ S₂ r₂ k₂ => h v vs F₂ s₂ (S₁.trans S₂) k₂ (r₁.mono S₂.up) r₂
theorem ev_starts {ap : Pos} (h1 : Ev G K ρ σ e (.str a)) (h2 : Ev G K ρ σ l (.str a')) (hn : ∀ n env t, attributeBase e n env t = t := by intros; rfl) (hl : (ap.endLine == p.line) = true := by rfl) (hs : notStar l = true := by rfl) : Ev G K ρ σ (.Call (.Attribute e "startswith" ap) [l] [] p) (.bool (a'.isPrefixOf a)) := fun A env F s E k =>
  meth_ok (id := "str.startswith") h1 hn hl (by rw [List.all_cons, hs]; rfl) (Nat.lt_of_sub_eq_succ rfl) (evl_cons h2 evl_nil) k (by rintro F s _ pl Q k ⟨t, rfl⟩ h; exact GM.startswith h)
    (by rintro _ _ F₁ s₁ S₁ k₁ ⟨t, rfl⟩ ⟨_, _, rfl, ⟨u, rfl⟩, rfl⟩; exact SC.startswith (by rw [starts_eq]; exact ⟨F₁, S₁, rfl⟩))
end
end Mine

set_option autoImplicit false
set_option linter.all false
set_option genSizeOf false
set_option genInjectivity false
set_option maxRecDepth 100000
namespace Mine
open PySem PySem.W PyProof.Rows

def RowV (r : Row) : V := .tup [.str r.1, .int r.2]
theorem rel_row {F : Fz} {v : Value} {r : Row} (x : Rel F (RowV r) v) : ∃ a t u n, v = .ref a ∧ F a = some (tobj [.str ⟨r.1.toArray⟩ t, .int r.2 u] n) := by
  obtain ⟨a, _, rfl, ⟨n, h⟩, _, _, rfl, ⟨t, rfl⟩, _, _, rfl, ⟨u, rfl⟩, rfl⟩ := x
  exact ⟨a, t, u, n, rfl, h⟩
theorem row_inj {F : Fz} {v : Value} {r r' : Row} (x : Rel F (RowV r) v) (y : Rel F (RowV r') v) : r = r' := by
  obtain ⟨a, t, u, n, rfl, ht⟩ := rel_row x
  obtain ⟨a', t', u', n', e, ht'⟩ := rel_row y
  cases e
  have e1 := Obj.mk.inj (Option.some.inj (ht.symm.trans ht'))
  have e2 := congrArg Array.toList (Data.seq.inj e1.2.2.1).1
  have e3 := List.cons.inj e2
  have e4 := Value.str.inj e3.1
  have e5 := Value.int.inj (List.cons.inj e3.2).1
  exact Prod.ext (congrArg Array.toList (Str.mk.inj e4.1)) e5.1

section
variable {prog : Program} {w : World} {A : Around} {E : Value → Shared → Prop} {s : Shared} {F : Fz}
theorem str_eq_iff (a b : List Nat) : ((⟨a.toArray⟩ : Str) == ⟨b.toArray⟩) = decide (a = b) := by
  by_cases h : a = b
  · subst h; rw [decide_eq_true rfl]; exact beq_self_eq_true _
  · rw [decide_eq_false h]
    have : (⟨a.toArray⟩ : Str) ≠ ⟨b.toArray⟩ := fun e => h (by injection e with e; simpa using e)
    exact beq_eq_false_iff_ne.mpr this
theorem row_cmp {x y : Value} {r r' : Row} (sub : ∀ a o, F a = some o → s.heap.get? a = some o) (hx : Rel F (RowV r) x) (hy : Rel F (RowV r') y) : wpAny (model prog w) A (keyLt' (tuples' true) x y) (fun c s' => c = rowLt r r' ∧ s' = s) E s := by
  obtain ⟨a, t, u, n, rfl, ho⟩ := rel_row hx
  obtain ⟨a', t', u', n', rfl, ho'⟩ := rel_row hy
  refine kat_lt (sub _ _ ho) rfl (sub _ _ ho') rfl ?_
  refine kat_cons (eqBool_str ?_)
  rw [str_eq_iff]
  refine kat_go (fun e1 => kat_yes (kat_cons (wpAny_eqBool_int ?_))) fun e1 => kat_no ?_
  · have e1 : r.1 = r'.1 := by simpa using e1
    refine kat_go (fun e2 => kat_yes (kat_nil ⟨?_, rfl⟩)) fun e2 => kat_no ?_
    · have e2 : r.2 = r'.2 := by simpa using e2
      have : rowLt r r' = false := by
        cases h : rowLt r r' with
        | false => rfl
        | true => rcases (rowLt_iff _ _).mp h with q | q
                  · rw [e1] at q; exact absurd q (List.lt_irrefl _)
                  · (first | lia | omega)
      rw [this]; rfl
    · show wpAny (model prog w) A (oneLt' (true && (1 == 0)) (.int r.2 u) (.int r'.2 u')) _ _ s
      refine kat_one _ _ (P.lt_int ?_)
      refine ⟨?_, rfl⟩
      unfold rowLt; rw [if_pos e1]
  · have e1 : ¬ r.1 = r'.1 := by simpa using e1
    show wpAny (model prog w) A (oneLt' true (.str ⟨r.1.toArray⟩ t) (.str ⟨r'.1.toArray⟩ t')) _ _ s
    refine oneLt_str ⟨?_, rfl⟩
    unfold rowLt; rw [if_neg e1]

theorem rows_tups {h : Heap} (sub : ∀ a o, F a = some o → h.get? a = some o) : ∀ {vs : List Value} {rs : List Row}, RelL F (rs.map RowV) vs → ∃ fs, KatTups h vs fs ∧ fs.length = rs.length ∧ ∀ v ∈ fs, ∃ x t, v = .str x t
  | _, [], rfl => ⟨[], trivial, rfl, fun _ h => nomatch h⟩
  | vs, q :: rs, r => by
    obtain ⟨v, ws, rfl, r1, r⟩ := r
    obtain ⟨a, t, u, n, rfl, ho⟩ := rel_row r1
    obtain ⟨fs, k1, k2, k3⟩ := rows_tups sub r
    refine ⟨.str ⟨q.1.toArray⟩ t :: fs, KatTups.cons (sub _ _ ho) rfl rfl rfl k1, by simp [k2], fun v hv => ?_⟩
    rcases List.mem_cons.mp hv with rfl | hv
    · exact ⟨_, _, rfl⟩
    · exact k3 v hv
theorem rows_kind {vs : List Value} {rs : List Row} (sub : ∀ a o, F a = some o → s.heap.get? a = some o) (r : RelL F (rs.map RowV) vs) (h2 : 2 ≤ rs.length) {Q : SortKind → Shared → Prop} {M : Model} (h : Q (tuples' true) s) : wpAny M A (keyKind' vs.toArray) Q E s := by
  obtain ⟨fs, k1, k2, k3⟩ := rows_tups sub r
  refine kat_kind (T := .type "str") k1 (by (first | lia | omega)) (fun v hv => ?_) rfl h
  obtain ⟨x, t, rfl⟩ := k3 v hv
  exact (show Looks M s.heap (pure (Value.type "str")) (Value.type "str") from .now)
theorem paired_zip : ∀ {vs : List Value} {rs : List Row}, RelL F (rs.map RowV) vs → Paired (fun x r => Rel F (RowV r) x.1 ∧ x.2 = x.1) (vs.zip vs) rs
  | _, [], rfl => .nil
  | _, _ :: _, ⟨_, _, rfl, r1, r⟩ => .cons ⟨r1, rfl⟩ (paired_zip r)
theorem paired_out : ∀ {L : List KRow} {rs : List Row}, Paired (fun x r => Rel F (RowV r) x.1 ∧ x.2 = x.1) L rs → RelL F (rs.map RowV) (L.map (·.2))
  | _, _, .nil => rfl
  | _, _, .cons ⟨h1, h2⟩ t => ⟨_, _, rfl, by show Rel F _ (Prod.snd _); rw [h2]; exact h1, paired_out t⟩
theorem sort_rows {a : Addr} {vs : List Value} {rs : List Row} {n : Nat} {P : Fin → Shared → Prop} (ho : s.heap.get? a = some (seqObj "list" vs.toArray n)) (sub : ∀ b o, F b = some o → s.heap.get? b = some o) (hFa : F a = none) (r : RelL F (rs.map RowV) vs) (hlen : rs.length ≤ 10000)
    (h : ∀ (out : List Value) (rs' : List Row), RelL F (rs'.map RowV) out → rs'.Perm rs → rs'.Pairwise (fun a b => rowLt b a = false) → P (.done (.ret .none)) { s with heap := sortedHeap s.heap a vs out.toArray }) :
    wpAny (model prog w) A (Builtin.«list.sort» ⟨[.ref a], []⟩) P E s := by
  have hl : vs.length = rs.length := by rw [RelL.length r, List.length_map]
  rw [list_sort_plain]
  have ha : a < s.heap.objs.size := Heap.lt_size ho
  refine wpAny_bind (listItems_at ho rfl ?_)
  refine wpAny_bind (listUpdate_at ho rfl ?_ (by rw [List.size_toArray, sizeLine_eq]; (first | lia | omega)) (Nat.zero_le _))
  obtain ⟨e1, ho1⟩ : ∃ e1, (s.heap.update a (Obj.mapSeq fun _ => #[])).get? a = some (seqObj "list" #[] e1) := ⟨_, get?_update_seq ho (fun _ => #[])⟩
  refine wpAny_bind (seqEpoch_at ho1 rfl ?_)
  refine wpAny_bind (wpAny_newTuple ?_ (by show vs.length ≤ _; rw [sizeLine_eq]; (first | lia | omega)))
  refine wpAny_bind (wpAny_newList ?_ (Nat.zero_le _))
  refine wpAny_holding ?_
  have ho6 : (((s.heap.update a (Obj.mapSeq fun _ => #[])).push (seqObj "tuple" vs.toArray 0)).push (seqObj "list" #[] 0)).get? a = some (seqObj "list" #[] e1) := by
    rw [Heap.get?_push_ne _ _ _ (by rw [size_push', Heap.size_update]; exact Nat.ne_of_lt (Nat.lt_succ_of_lt ha)), Heap.get?_push_ne _ _ _ (by rw [Heap.size_update]; exact Nat.ne_of_lt ha)]
    exact ho1
  have sub' : ∀ b o, F b = some o → (((s.heap.update a (Obj.mapSeq fun _ => #[])).push (seqObj "tuple" vs.toArray 0)).push (seqObj "list" #[] 0)).get? b = some o := fun b o e => by
    have hb : b ≠ a := by rintro rfl; exact nomatch hFa.symm.trans e
    refine Heap.get?_push_of_some _ (Heap.get?_push_of_some _ ?_)
    rw [Heap.get?_update_ne _ _ _ _ hb]; exact sub b o e
  show wpAny (model prog w) A _ P E { s with heap := ((s.heap.update a (Obj.mapSeq fun _ => #[])).push (seqObj "tuple" vs.toArray 0)).push (seqObj "list" #[] 0) }
  dsimp only
  have hsz : vs.toArray.size = vs.length := by simp
  by_cases h2 : vs.toArray.size < 2
  · rw [if_pos h2, if_pos h2]
    refine wpAny_bind (wpAny_pure ?_)
    rw [StateT.run_pure]
    refine wpAny_bind (wpAny_pure ?_)
    dsimp only
    refine wpAny_bind (seqEpoch_at ho6 rfl ?_)
    refine wpAny_bind (listUpdate_at ho6 rfl ?_ (Nat.zero_le _) (hsz2 := by rw [Array.size_map]; show (vs.toArray.zip vs.toArray).size ≤ _; rw [sizeLine_eq]; simp; (first | lia | omega)))
    simp only [bne_self_eq_false, Bool.false_eq_true, if_false]
    have hz : ((vs.toArray.zip vs.toArray).map (·.2)) = vs.toArray := by
      apply Array.ext'
      simp
      rw [List.map_snd_zip (by (first | lia | omega))]
    refine wpAny_pure ?_
    have := h vs rs r (.refl _) (by
      match rs, hl with
      | [], _ => exact .nil
      | [_], _ => exact List.pairwise_singleton ..
      | _ :: _ :: _, hl => simp at hl; (first | lia | omega))
    show P _ { s with heap := sortedHeap s.heap a vs ((vs.toArray.zip vs.toArray).map (·.2)) }
    rw [hz]; exact this
  · rw [if_neg h2, if_neg h2]
    refine wpAny_bind (rows_kind (s := { s with heap := ((s.heap.update a (Obj.mapSeq fun _ => #[])).push (seqObj "tuple" vs.toArray 0)).push (seqObj "list" #[] 0) }) sub' r (by (first | lia | omega)) ?_)
    have hz : vs.toArray.zip vs.toArray = (vs.zip vs).toArray := by apply Array.ext'; simp
    rw [hz]
    refine wpAny_bind (wpAny_mono (sort_core (κ := tuples' true) (lo := rowLt) (J := fun x r => Rel F (RowV r) x.1 ∧ x.2 = x.1) rowLt_swo (fun x q q' h1 h2 => row_inj h1.1 h2.1)
      (fun x y q q' h1 h2 => row_cmp (s := { s with heap := ((s.heap.update a (Obj.mapSeq fun _ => #[])).push (seqObj "tuple" vs.toArray 0)).push (seqObj "list" #[] 0) }) sub' h1.1 h2.1) (paired_zip r) (by simp; (first | lia | omega))
      (Q := fun _ st' => failedOf st' = none ∧ ∃ L' rs', arrOf st' = L'.toArray ∧ Paired (fun x r => Rel F (RowV r) x.1 ∧ x.2 = x.1) L' rs' ∧ rs'.Perm rs ∧ rs'.Pairwise (fun a b => rowLt b a = false)) fun st' L' rs' k1 k2 k3 k4 k5 => ⟨k1, L', rs', k2, k3, k4, k5⟩) ?_ fun _ _ e => e)
    rintro ⟨⟨⟩, st'⟩ s' ⟨rfl, hf, L', rs', k2, k3, k4, k5⟩
    dsimp only
    have hzz : (arrOf st').map (·.2) = (L'.map (·.2)).toArray := by rw [k2]; simp
    have hlen' : (L'.map (·.2)).length = rs.length := by rw [(paired_out k3).length, List.length_map, k4.length_eq]
    refine wpAny_bind (seqEpoch_at ho6 rfl ?_)
    refine wpAny_bind (listUpdate_at ho6 rfl ?_ (Nat.zero_le _) (hsz2 := by show ((arrOf st').map (·.2)).size ≤ _; rw [hzz, List.size_toArray, hlen', sizeLine_eq]; (first | lia | omega)))
    rw [hf]
    simp only [bne_self_eq_false, Bool.false_eq_true, if_false]
    refine wpAny_pure ?_
    show P _ { s with heap := sortedHeap s.heap a vs ((arrOf st').map (·.2)) }
    rw [hzz]
    exact h _ rs' (paired_out k3) k4 k5
theorem sorted_rows {l : Addr} {vs : List Value} {rs : List Row} {Q : Value → Shared → Prop} (hl : s.heap.IsList l vs.toArray) (sub : ∀ b o, F b = some o → s.heap.get? b = some o) (r : RelL F (rs.map RowV) vs) (hlen : rs.length ≤ 10000)
    (h : ∀ (out : List Value) (rs' : List Row), RelL F (rs'.map RowV) out → rs'.Perm rs → rs'.Pairwise (fun a b => rowLt b a = false) → Q (.ref (s.heap.objs.size + 1)) { s with heap := sortedAll s.heap vs out.toArray }) :
    wpAny (model prog w) A (call (.builtin "sorted") [.ref l]) Q E s := by
  have hl' : vs.length = rs.length := by rw [RelL.length r, List.length_map]
  refine Calls.call_function_entry kind_sorted plain_sorted entry_sorted (args_sorted1 _) ?_
  unfold Builtin.«sorted»
  refine wpAny_bind (m := checkCount "sorted" 1 1 _) (wpAny_pure ?_)
  refine wpAny_bind (collect_list hl ?_ (by rw [sizeLine_eq]; (first | lia | omega)))
  refine wpAny_bind (wpAny_newList ?_ (by rw [sizeLine_eq]; (first | lia | omega)))
  have hsz : ((s.heap.push (seqObj "list" #[] 0)).update s.heap.objs.size (Obj.mapSeq (· ++ vs.toArray))).objs.size = s.heap.objs.size + 1 := by
    rw [Heap.size_update, size_push']
  have hoL : (((s.heap.push (seqObj "list" #[] 0)).update s.heap.objs.size (Obj.mapSeq (· ++ vs.toArray))).push (seqObj "list" vs.toArray 0)).get? (s.heap.objs.size + 1) = some (seqObj "list" vs.toArray 0) := by
    rw [← hsz]; exact Heap.get?_push_size _ rfl
  have hFn : F (s.heap.objs.size + 1) = none := by
    cases q : F (s.heap.objs.size + 1) with
    | none => rfl
    | some o => exact absurd (Heap.lt_size (sub _ _ q)) (Nat.not_lt.mpr (Nat.le_succ _))
  have keep : ∀ b o, s.heap.get? b = some o → (((s.heap.push (seqObj "list" #[] 0)).update s.heap.objs.size (Obj.mapSeq (· ++ vs.toArray))).push (seqObj "list" vs.toArray 0)).get? b = some o := fun b o q => by
    have hlt : b < s.heap.objs.size := Heap.lt_size q
    rw [Heap.get?_push_ne _ _ _ (by rw [hsz]; exact Nat.ne_of_lt (Nat.lt_succ_of_lt hlt)), Heap.get?_update_ne _ _ _ _ (Nat.ne_of_lt hlt), Heap.get?_push_ne _ _ _ (Nat.ne_of_lt hlt)]
    exact q
  show wpAny _ _ _ _ _ { s with heap := ((s.heap.push (seqObj "list" #[] 0)).update s.heap.objs.size (Obj.mapSeq (· ++ vs.toArray))).push (seqObj "list" vs.toArray 0) }
  rw [hsz]
  refine wpAny_bind (wpAny_holding (wpAny_call_entry slot_list_sort ⟨_, hoL, rfl⟩ entry_list_sort (sort_rows (s := { s with heap := ((s.heap.push (seqObj "list" #[] 0)).update s.heap.objs.size (Obj.mapSeq (· ++ vs.toArray))).push (seqObj "list" vs.toArray 0) }) hoL (fun b o e => keep b o (sub b o e)) hFn r hlen fun out rs' a1 a2 a3 => ⟨_, rfl, ?_⟩) (args_list_sort _)))
  exact wpAny_pure ⟨_, rfl, h out rs' a1 a2 a3⟩
end
end Mine

set_option autoImplicit false
set_option linter.all false
set_option genSizeOf false
set_option genInjectivity false
set_option maxRecDepth 100000
namespace Mine
open PySem PyProof.Rows

/-! ## statements: the frame's own state -/
def Own (env : Env) (b : Addr) : Prop := b = env.locals ∨ ∃ x, (x, b) ∈ env.cells
def Dm (env : Env) (σ : Ow) (b : Addr) : Prop := Own env b ∨ ∃ xs, σ b = some xs
structure FOk (G : Gl) (K : Sx) (A : Around) (env : Env) (ρ : List V) (σ : Ow) (F : Fz) (s : Shared) : Prop where
  e : EOk G K A env ρ σ F s
  top : ∃ outer, A.frames = some (env :: outer)
  apart : env.cells.Pairwise fun x y => x.2 ≠ y.2
  nodup : K.ns.Nodup
  own : ∀ x c, (x, c) ∈ env.cells → (∃ ov, s.heap.IsCell c ov) ∧ F c = none
structure Lk (env : Env) (σ : Ow) (F : Fz) (s : Shared) (σ' : Ow) (F' : Fz) (s' : Shared) : Prop where
  S : St (Dm env σ) F s F' s'
  d : ∀ b xs, σ' b = some xs → (∃ ys, σ b = some ys) ∨ s.heap.get? b = none
inductive Fl where
  | next
  | ret (v : V)
def FlRel (F : Fz) : Flow → Fl → Prop
  | .next, .next => True
  | .ret v, .ret x => Rel F x v
  | _, _ => False
abbrev KS := Fl → List V → Ow → Prop
inductive PS (G : Gl) (K : Sx) (A : Around) (env : Env) (σ : Ow) (F : Fz) (s : Shared) (Q : KS) (f : Flow) (s' : Shared) : Prop
  | mk (fl : Fl) (ρ' : List V) (σ' : Ow) (F' : Fz) (hf : FlRel F' f fl) (k : FOk G K A env ρ' σ' F' s') (L : Lk env σ F s σ' F' s') (q : Q fl ρ' σ')
def WS (G : Gl) (K : Sx) (ss : List Stmt) (ρ : List V) (σ : Ow) (Q : KS) : Prop :=
  ∀ A env F s E, FOk G K A env ρ σ F s → wpAny G.M A (execs ss env) (PS G K A env σ F s Q) E s
def WS1 (G : Gl) (K : Sx) (st : Stmt) (ρ : List V) (σ : Ow) (Q : KS) : Prop :=
  ∀ A env F s E, FOk G K A env ρ σ F s → wpAny G.M A (exec st env) (PS G K A env σ F s Q) E s

def Kc (G : Gl) (K : Sx) (ss : List Stmt) (Q : KS) : KS := fun f ρ σ => match f with | .next => WS G K ss ρ σ Q | .ret x => Q (.ret x) ρ σ
section
variable {G : Gl} {K : Sx} {A : Around} {env : Env} {ρ ρ₁ : List V} {σ σ₁ σ₂ : Ow} {F F₁ F₂ : Fz} {s s₁ s₂ : Shared} {E : Value → Shared → Prop} {Q : KS} {e c : PySem.Expr} {ss : List Stmt} {st : Stmt} {x : V} {p q : Pos} {b : Bool}
theorem FOk.step (k : FOk G K A env ρ σ F s) (S : St N0 F s F₁ s₁) : FOk G K A env ρ σ F₁ s₁ :=
  ⟨k.e.step S, k.top, k.apart, k.nodup, fun x c hc => (k.own x c hc).elim fun h1 h2 => ⟨h1.imp fun _ h => h.imp fun _ h => ⟨S.keep _ _ h.1 id (fun _ _ e => nomatch h.2.symm.trans e), h.2⟩, h1.elim fun _ h => h.elim fun _ h => S.out h2 h.1⟩⟩
theorem Lk.trans (x : Lk env σ F s σ₁ F₁ s₁) (y : Lk env σ₁ F₁ s₁ σ₂ F₂ s₂) : Lk env σ F s σ₂ F₂ s₂ :=
  ⟨⟨fun a o e => y.S.up a o (x.S.up a o e), y.S.sub, fun b o e d => (x.S.keepO b o e d).elim fun o' r => (y.S.keepO b o' r.1 fun q => q.elim (fun q => d (.inl q)) fun q => q.elim fun xs q => (x.d b xs q).elim (fun q => d (.inr q)) fun q => (nomatch e.symm.trans q)).imp fun _ t => ⟨t.1, r.2.trans t.2⟩,
    fun b o e => (x.S.live b o e).elim fun o' e' => (y.S.live b o' e'.1).imp fun _ r => ⟨r.1, e'.2.trans r.2⟩, fun b o e => (y.S.new b o e).elim (x.S.new b o) fun q => .inr (x.S.dead q), by rw [y.S.rest, x.S.rest]⟩,
   fun b xs q => (y.d b xs q).elim (fun q => q.elim fun ys q => x.d b ys q) fun q => .inr (x.S.dead q)⟩
theorem St.lk (S : St N0 F s F₁ s₁) : Lk env σ F s σ F₁ s₁ := ⟨S.any, fun _ xs q => .inl ⟨xs, q⟩⟩
theorem PS.from {f : Flow} {s' : Shared} (L : Lk env σ F s σ₁ F₁ s₁) (h : PS G K A env σ₁ F₁ s₁ Q f s') : PS G K A env σ F s Q f s' :=
  h.casesOn fun fl ρ' σ' F' hf k L' q => ⟨fl, ρ', σ', F', hf, k, L.trans L', q⟩
theorem ws_from {M : Model} {t : Sem Flow} (L : Lk env σ F s σ₁ F₁ s₁) (h : wpAny M A t (PS G K A env σ₁ F₁ s₁ Q) E s₁) : wpAny M A t (PS G K A env σ F s Q) E s₁ := wpAny_mono h (fun _ _ q => q.from L) fun _ _ e => e
theorem FOk.here (k : FOk G K A env ρ σ F s) (h : Q .next ρ σ) : PS G K A env σ F s Q .next s := ⟨.next, ρ, σ, F, trivial, k, (St.refl k.e.rm.sub).lk, h⟩

/-- an object that is not frozen is changed, or a new one comes -/
theorem St.change {D : Addr → Prop} {q : Addr} {h' : Heap} {t : Nat} (sub : ∀ a o, F a = some o → s.heap.get? a = some o) (hq : F q = none) (hD : D q ∨ s.heap.get? q = none) (hs : Heap.ExtBut q s.heap h') (hl : ∃ o', h'.get? q = some o' ∧ ∀ o, s.heap.get? q = some o → DK o o') : St D F s F { s with heap := h', toks := t } :=
  ⟨fun _ _ e => e, fun a o e => hs a o (by rintro rfl; exact nomatch hq.symm.trans e) (sub a o e), fun b o e d => ⟨o, hs b o (by rintro rfl; exact hD.elim d fun q => nomatch e.symm.trans q) e, .inl rfl⟩,
    fun b o e => (Classical.em (b = q)).elim (fun h => by subst h; exact hl.imp fun _ t => ⟨t.1, t.2 o e⟩) fun h => ⟨o, hs b o h e, .refl o⟩, fun _ _ e => .inl e, rfl⟩
theorem set_get {i j : Nat} {x w : V} (h : (ρ.set i x)[j]? = some w) : (j = i ∧ w = x) ∨ (j ≠ i ∧ ρ[j]? = some w) := by
  by_cases hj : j = i
  · subst hj
    rw [List.getElem?_set_self'] at h
    cases e : ρ[j]? with
    | none => rw [e] at h; cases h
    | some v => rw [e] at h; cases h; exact .inl ⟨rfl, rfl⟩
  · rw [List.getElem?_set_ne (fun e => hj e.symm)] at h; exact .inr ⟨hj, h⟩
theorem ns_inj {ns : List Str} {i j : Nat} {x : Str} (hn : ns.Nodup) (hi : ns[i]? = some x) (hj : ns[j]? = some x) : i = j := by
  obtain ⟨a, ha⟩ := List.getElem?_eq_some_iff.mp hi
  obtain ⟨b, hb⟩ := List.getElem?_eq_some_iff.mp hj
  have hp := List.pairwise_iff_getElem.mp hn
  rcases Nat.lt_trichotomy i j with h | h | h
  · exact absurd (ha.trans hb.symm) (hp i j a b h)
  · exact h
  · exact absurd (hb.trans ha.symm) (hp j i b a h)
/-- other objects than the frame's own are changed -/
theorem FOk.others {D : Addr → Prop} {h' : Heap} {t : Nat} {σ' : Ow} (k : FOk G K A env ρ σ F s) (hD : ∀ q, D q → F q = none ∧ ¬ Own env q ∧ NoFr A q) (up : ∀ b o, ¬ D b → s.heap.get? b = some o → h'.get? b = some o)
    (hσ : ∀ a xs, σ' a = some xs → F a = none ∧ ∃ vs n, h'.get? a = some (lobj vs n) ∧ RelL F xs vs) : FOk G K A env ρ σ' F { s with heap := h', toks := t } :=
  ⟨⟨⟨k.e.rm.go, k.e.rm.base, fun a o e => up a o (fun h => nomatch (hD a h).1.symm.trans e) (k.e.rm.sub a o e), k.e.rm.depth, k.e.rm.units, k.e.rm.handled, k.e.rm.frs fun L hL hF t => ⟨hF, t.imp fun o t => t.imp fun _ t => t.imp fun _ t => ⟨up L o (fun h => hL (hD L h).2.2) t.1, t.2⟩⟩⟩, k.e.sc, k.e.kind, k.e.globals, k.e.builtins, hσ,
    ⟨k.e.loc.len, k.e.loc.out, k.e.loc.vars.imp fun m r => ⟨ns_keep r.1 fun o e => up _ o (fun h => (hD _ h).2.1 (.inl rfl)) e, fun i x v hx hv => ⟨(r.2 i x v hx hv).1, fun hk => ((r.2 i x v hx hv).2 hk).imp fun c u => u.imp fun ov u =>
      ⟨u.1, u.2.1.imp fun oc w => ⟨up _ _ (fun h => (hD _ h).2.1 (.inr ⟨x, mem_of_lookup u.1⟩)) w.1, w.2⟩, u.2.2⟩⟩⟩⟩⟩,
   k.top, k.apart, k.nodup, fun x c hc => (k.own x c hc).elim fun h1 h2 => ⟨h1.imp fun _ h => h.imp fun _ h => ⟨up _ _ (fun h => (hD _ h).2.1 (.inr ⟨x, hc⟩)) h.1, h.2⟩, h2⟩⟩
theorem FOk.other {q : Addr} {h' : Heap} {t : Nat} {σ' : Ow} (k : FOk G K A env ρ σ F s) (hq : F q = none) (hs : Heap.ExtBut q s.heap h') (hn : ¬ Own env q) (hf : NoFr A q)
    (hσ : ∀ a xs, σ' a = some xs → F a = none ∧ ∃ vs n, h'.get? a = some (lobj vs n) ∧ RelL F xs vs) : FOk G K A env ρ σ' F { s with heap := h', toks := t } :=
  k.others (D := (· = q)) (fun _ e => e ▸ ⟨hq, hn, hf⟩) (fun b o h e => hs b o h e) hσ
theorem FOk.notOwn {q : Addr} {o : Obj} (k : FOk G K A env ρ σ F s) (ho : s.heap.get? q = some o) (h1 : ∀ es n, o.data ≠ .dict es n) (h2 : ∀ v, o.data ≠ .cell v) : ¬ Own env q := by
  rintro (rfl | ⟨x, hx⟩)
  · obtain ⟨mm, ⟨o', es, ep, e, hd, _⟩, _⟩ := k.e.loc.vars
    rw [ho] at e; cases e; exact h1 _ _ hd
  · obtain ⟨⟨ov, o', e, hd⟩, _⟩ := k.own x q hx
    rw [ho] at e; cases e; exact h2 _ hd
theorem relO_some {v : Value} (r : Rel F x v) : RelO F x (some v) := fun _ => ⟨v, rfl, r⟩
/-- storing a name of the frame -/
theorem store_ok {n : Str} {i : Nat} {v : Value} {R : Unit → Shared → Prop} (k : FOk G K A env ρ σ F s) (hx : nameOK K i n = true) (r : Rel F x v)
    (h : ∀ h' t, FOk G K A env (ρ.set i x) σ F { s with heap := h', toks := t } → Lk env σ F s σ F { s with heap := h', toks := t } → (∀ b o, ¬ Own env b → s.heap.get? b = some o → h'.get? b = some o) → R () { s with heap := h', toks := t }) : wpAny G.M A (storeName env n v) R E s := by
  obtain ⟨mm, hn, vars⟩ := k.e.loc.vars
  obtain ⟨hx, hk, _⟩ := nameOK_inv hx
  obtain ⟨o, es, ep, ho, hd, hr⟩ := id hn
  -- the parts that both ways share: q is the object that changes
  have fin : ∀ (q : Addr) (oq : Obj) (h' : Heap) (t : Nat), s.heap.get? q = some oq → F q = none → (∀ xs n, oq ≠ lobj xs n) → Own env q → Heap.SameBut q s.heap h' → (∃ o', h'.get? q = some o' ∧ ∀ o, s.heap.get? q = some o → DK o o') → (∃ m, h'.Ns env.locals m ∧ ∀ (j : Nat) (y : Str) (w : V), K.ns[j]? = some y → (ρ.set i x)[j]? = some w →
      (K.sc.names.lookup y = some .local → RelO F w (m y)) ∧ (K.sc.names.lookup y = some .cell → ∃ c ov, env.cells.lookup y = some c ∧ h'.IsCell c ov ∧ RelO F w ov ∧ F c = none)) →
      (∀ x c, (x, c) ∈ env.cells → ∃ ov, h'.IsCell c ov) → R () { s with heap := h', toks := t } := fun q oq h' t hq hF hl ho hs hv hvars hcells =>
    h h' t ⟨⟨⟨k.e.rm.go, k.e.rm.base, fun a o e => hs.extBut a o (by rintro rfl; exact nomatch hF.symm.trans e) (k.e.rm.sub a o e), k.e.rm.depth, k.e.rm.units, k.e.rm.handled, k.e.rm.frs fun L _ hL t => ⟨hL, t.elim fun o t => t.elim fun es t => t.elim fun n t => (Classical.em (L = q)).elim (fun e => by subst e; exact hv.imp fun _ u => (u.2 o t.1 es n t.2).imp fun _ w => w.imp fun _ w => ⟨u.1, w⟩) fun e => ⟨o, es, n, hs.extBut L o e t.1, t.2⟩⟩⟩, k.e.sc, k.e.kind, k.e.globals, k.e.builtins,
        fun a xs q => (k.e.own a xs q).elim fun h1 h2 => ⟨h1, h2.imp fun vs h2 => h2.imp fun n h2 => ⟨hs.extBut a _ (by rintro rfl; exact hl _ _ (Option.some.inj (hq.symm.trans h2.1))) h2.1, h2.2⟩⟩,
        ⟨by rw [List.length_set]; exact k.e.loc.len, k.e.loc.out, hvars⟩⟩, k.top, k.apart, k.nodup, fun x c hc => ⟨hcells x c hc, (k.own x c hc).2⟩⟩
      ⟨St.change k.e.rm.sub hF (.inl (.inl ho)) hs.extBut hv, fun b xs q => .inl ⟨xs, q⟩⟩ fun b o hb e => hs.extBut b o (by rintro rfl; exact hb ho) e
  rcases hk with hk | hk
  · refine wpAny_storeName_local ((kindOf_eq k.e n).trans hk) hn (fun h' hn' hs' => ?_) (by rw [k.e.kind]; rfl)
    refine fin env.locals o h' (s.toks + 1) ho k.e.loc.out (fun xs n e => by rw [e] at hd; cases hd) (.inl rfl) hs' (hn'.imp fun _ t => t.elim fun _ t => t.elim fun _ t => ⟨t.1, fun _ _ _ _ _ => ⟨_, _, t.2.1⟩⟩) ⟨_, hn', fun j y w hy hw => ?_⟩ fun x c hc => (k.own x c hc).1.imp fun ov h => h.sameBut hs' ?_
    · rcases set_get hw with ⟨rfl, rfl⟩ | ⟨hj, hw⟩
      · cases hy.symm.trans hx
        exact ⟨fun _ => by rw [if_pos rfl]; exact relO_some r, fun hc => nomatch hk.symm.trans hc⟩
      · have hne : y ≠ n := by rintro rfl; exact hj (ns_inj k.nodup hy hx)
        refine ⟨fun hl => by rw [if_neg hne]; exact (vars j y w hy hw).1 hl, fun hc => ((vars j y w hy hw).2 hc).imp fun c u => u.imp fun ov u => ⟨u.1, u.2.1.sameBut hs' ?_, u.2.2⟩⟩
        rintro rfl; obtain ⟨oc, hoc, hdc⟩ := u.2.1; rw [ho] at hoc; cases hoc; rw [hd] at hdc; cases hdc
    · rintro rfl; obtain ⟨oc, hoc, hdc⟩ := h; rw [ho] at hoc; cases hoc; rw [hd] at hdc; cases hdc
  · have hi : i < ρ.length := by rw [k.e.loc.len]; exact (List.getElem?_eq_some_iff.mp hx).1
    obtain ⟨c, ov, h1, h2, h3, h4⟩ := (vars i n _ hx (List.getElem?_eq_getElem hi)).2 hk
    refine wpAny_storeName_cell k.e.kind ((kindOf_eq k.e n).trans hk) h1 h2 fun h' hn' hs' => ?_
    obtain ⟨oc, hoc, hdc⟩ := id h2
    have hcl : env.locals ≠ c := by rintro rfl; rw [ho] at hoc; cases hoc; rw [hd] at hdc; cases hdc
    refine fin c oc h' s.toks hoc h4 (fun xs n e => by rw [e] at hdc; cases hdc) (.inr ⟨n, mem_of_lookup h1⟩) hs' (hn'.imp fun _ h => ⟨h.1, fun o e es n t => by cases hoc.symm.trans e; exact nomatch hdc.symm.trans t⟩) ⟨mm, hn.sameBut hs' hcl, fun j y w hy hw => ?_⟩ fun x d hc => ?_
    · rcases set_get hw with ⟨rfl, rfl⟩ | ⟨hj, hw⟩
      · cases hy.symm.trans hx
        exact ⟨fun hl => (nomatch hk.symm.trans hl), fun _ => ⟨c, some v, h1, hn', relO_some r, h4⟩⟩
      · have hne : y ≠ n := by rintro rfl; exact hj (ns_inj k.nodup hy hx)
        refine ⟨(vars j y w hy hw).1, fun hc => ((vars j y w hy hw).2 hc).imp fun c' u => u.imp fun ov u => ⟨u.1, u.2.1.sameBut hs' ?_, u.2.2⟩⟩
        rintro rfl; exact hne (name_of_addr k.apart (mem_of_lookup u.1) (mem_of_lookup h1))
    · exact (Classical.em (d = c)).elim (fun e => e ▸ ⟨_, hn'⟩) fun e => (k.own x d hc).1.imp fun _ h => h.sameBut hs' e

/-! ## rules -/
theorem ws_nil (h : Q .next ρ σ) : WS G K [] ρ σ Q := fun A env F s E k => wpAny_execs_nil (k.here h)
theorem ws_cons (h1 : WS1 G K st ρ σ (Kc G K ss Q)) : WS G K (st :: ss) ρ σ Q := fun A env F s E k =>
  wpAny_execs_cons (wpAny_mono (h1 A env F s E k) (fun f s₁ h => h.casesOn fun fl ρ' σ' F' hf k' L q => by
    cases f <;> cases fl <;> first | exact hf.elim | skip
    · exact ws_from L (q A env F' s₁ E k')
    · exact ⟨_, ρ', σ', F', hf, k', L, q⟩) fun _ _ e => e)
theorem ws_asg (i : Nat) {n : Str} (h1 : Ev G K ρ σ e x) (h2 : WS G K ss (ρ.set i x) σ Q) (hx : nameOK K i n = true := by decide +kernel) (hsw : ∀ env, env.scope = K.sc → swapsWith e (some (.Name n q)) p.line env = pure false := by intros; rfl) : WS G K (.Assign [.Name n q] e p :: ss) ρ σ Q :=
  ws_cons fun A env F s E k => wpAny_Assign_Name (h1.bind k.e fun v F₁ s₁ S r k₁ => store_ok (k.step S) hx r fun h' t k₂ L _ => ⟨.next, _, σ, F₁, trivial, k₂, (St.lk S).trans L, h2⟩) (hsw env k.e.sc)
theorem ws_ret (h1 : Ev G K ρ σ e x) (h : Q (.ret x) ρ σ) : WS G K (.Return (some e) p :: ss) ρ σ Q :=
  ws_cons fun A env F s E k => wpAny_Return_some (h1.bind k.e fun v F₁ s₁ S r k₁ => ⟨.ret x, ρ, σ, F₁, r, k.step S, S.lk, h⟩)
theorem ws_retN (h : Q (.ret .none) ρ σ) : WS G K (.Return none p :: ss) ρ σ Q :=
  ws_cons fun A env F s E k => wpAny_Return_none ⟨.ret .none, ρ, σ, F, rfl, k, (St.refl k.e.rm.sub).lk, h⟩
theorem ws_if {a b' : List Stmt} (h1 : Tr G K ρ σ c b) (ht : b = true → WS G K a ρ σ (Kc G K ss Q))
    (hf : b = false → WS G K b' ρ σ (Kc G K ss Q)) : WS G K (.If c a b' p :: ss) ρ σ Q :=
  ws_cons fun A env F s E k => wpAny_If (h1.bind k.e fun F₁ s₁ S k₁ => by
    cases b
    · exact ws_from S.lk (hf rfl A env F₁ s₁ E (k.step S))
    · exact ws_from S.lk (ht rfl A env F₁ s₁ E (k.step S)))
theorem ws_mono {Q' : KS} (h : WS G K ss ρ σ Q) (hq : ∀ f ρ σ, Q f ρ σ → Q' f ρ σ) : WS G K ss ρ σ Q' := fun A env F s E k =>
  wpAny_mono (h A env F s E k) (fun _ _ q => q.casesOn fun fl ρ' σ' F' hf k' L q => ⟨fl, ρ', σ', F', hf, k', L, hq _ _ _ q⟩) fun _ _ e => e
def Kp (P : List V → Ow → Prop) (Q : KS) : KS := fun f ρ σ => match f with | .next => P ρ σ | .ret x => Q (.ret x) ρ σ
/-- a branch whose ways meet again -/
theorem ws_ifm (P : List V → Ow → Prop) {a b' : List Stmt} (h1 : Tr G K ρ σ c b) (ht : b = true → WS G K a ρ σ (Kp P Q)) (hf : b = false → WS G K b' ρ σ (Kp P Q)) (h : ∀ ρ σ, P ρ σ → WS G K ss ρ σ Q) : WS G K (.If c a b' p :: ss) ρ σ Q :=
  have m : ∀ f ρ σ, Kp P Q f ρ σ → Kc G K ss Q f ρ σ := fun f ρ σ q => by cases f; exact h ρ σ q; exact q
  ws_if h1 (fun e => ws_mono (ht e) m) fun e => ws_mono (hf e) m
end
end Mine

set_option autoImplicit false
set_option linter.all false
set_option genSizeOf false
set_option genInjectivity false
set_option maxRecDepth 100000
namespace Mine
open PySem PyProof.Rows

/-! ## while -/
def Kl (I : Nat → List V → Ow → Prop) (n : Nat) (Q : KS) : KS := fun f ρ σ => match f with | .next => ∃ k, k < n ∧ I k ρ σ | .ret x => Q (.ret x) ρ σ
def Kf (I : Nat → List V → Ow → Prop) (n : Nat) (Q : KS) : KS := fun f ρ σ => match f with | .next => I n ρ σ | .ret x => Q (.ret x) ρ σ
section
variable {G : Gl} {K : Sx} {A : Around} {env : Env} {ρ ρ₁ : List V} {σ σ₀ σ₁ σ₂ : Ow} {F F₀ F₁ F₂ : Fz} {s s₀ s₁ s₂ : Shared} {E : Value → Shared → Prop} {Q : KS} {e c t : PySem.Expr} {ss body : List Stmt} {st : Stmt} {x y z : V} {p q : Pos} {b : Bool} {xs ys : List V}
theorem ws_while (I : Nat → List V → Ow → Prop) (n : Nat) (h0 : I n ρ σ) (turn : ∀ n ρ σ, I n ρ σ → ∃ b, Tr G K ρ σ c b ∧ (b = true → WS G K body ρ σ (Kl I n Q)) ∧ (b = false → WS G K ss ρ σ Q)) : WS G K (.While c body [] p :: ss) ρ σ Q :=
  ws_cons fun A env F s E k => wpAny_While (codeAny_whileLoop (fun m s' => ∃ ρ' σ' F', FOk G K A env ρ' σ' F' s' ∧ Lk env σ F s σ' F' s' ∧ I m ρ' σ') (by
    rintro m s' ⟨ρ', σ', F', k', L', hI⟩
    obtain ⟨b, h1, h2, h3⟩ := turn m ρ' σ' hI
    refine h1.bind k'.e fun F₁ s₁ S k₁ => ?_
    cases b
    · exact wpAny_execs_nil ⟨.next, ρ', σ', F₁, trivial, k'.step S, L'.trans S.lk, h3 rfl⟩
    · refine wpAny_mono (h2 rfl A env F₁ s₁ _ (k'.step S)) (fun f s₂ h => h.casesOn fun fl ρ₂ σ₂ F₂ hf k₂ L₂ q => ?_) fun _ _ e => e
      cases f <;> cases fl <;> first | exact hf.elim | skip
      · exact q.imp fun _ q => ⟨q.1, ρ₂, σ₂, F₂, k₂, (L'.trans S.lk).trans L₂, q.2⟩
      · exact ⟨_, ρ₂, σ₂, F₂, hf, k₂, (L'.trans S.lk).trans L₂, q⟩) n ⟨ρ, σ, F, k, (St.refl k.e.rm.sub).lk, h0⟩)

/-! ## iterators -/
def ownTs : List String := ["enumerate", "zip", "dict_itemiterator", "dict_reverseitemiterator", "odict_iterator", "itertools.zip_longest", "itertools.pairwise"]
def itemsOf : V → Option (List V)
  | .tup xs | .lst xs | .scr xs => some xs
  | .rng a b => some ((List.range (b - a).toNat).map fun (i : Nat) => V.int (a + (i : Int)))
  | .str s => some (s.map fun c => .str [c])
  | _ => none
structure It (G : Gl) (A : Around) (F : Fz) (it : Addr) (xs : List V) (P : Nat → Heap → Prop) : Prop where
  keep : ∀ i h h', P i h → (∀ a o, F a = some o → h.get? a = some o) → (∀ a o, F a = some o → h'.get? a = some o) → (∀ o, h.get? it = some o → h'.get? it = some o) → P i h'
  item : ∀ (i : Nat) s Q E y, xs[i]? = some y → P i s.heap → (∀ v h' tk, Rel F y v → P (i + 1) h' → Heap.ExtBut it s.heap h' → Q (some v) { s with heap := h', toks := tk }) → wpAny G.M A (pyNext (.ref it)) Q E s
  done : ∀ s Q E, P xs.length s.heap → (∀ h' tk, Heap.ExtBut it s.heap h' → Q none { s with heap := h', toks := tk }) → wpAny G.M A (pyNext (.ref it)) Q E s
  self : ∀ i s Q E, P i s.heap → Q (.ref it) s → wpAny G.M A (pyIter (.ref it)) Q E s
  obj : ∀ i h, P i h → ∃ o T vs, h.get? it = some o ∧ o.cls = .type T ∧ o.data = .fields vs ∧ ownTs.contains T = false
theorem it_of {it : Addr} {fp : List Addr} {n : Nat} {P : Nat → Value → Prop} {T : Nat → Heap → Prop} (W : Walks G.prog G.w A it fp [it] n P T) (hn : xs.length = n) (hfp : ∀ b ∈ fp, b ≠ it → ∃ o, F b = some o)
    (hP : ∀ (i : Nat) y v, xs[i]? = some y → P i v → Rel F y v) (hobj : ∀ i h, T i h → ∃ o T vs, h.get? it = some o ∧ o.cls = .type T ∧ o.data = .fields vs ∧ ownTs.contains T = false) : It G A F it xs T where
  keep i h h' t h1 h2 h3 := W.frame i h h' t fun b hb o e => (Classical.em (b = it)).elim (fun q => by subst q; exact h3 o e) fun q => (hfp b hb q).elim fun o' e' => (e.symm.trans (h1 b o' e')) ▸ h2 b o' e'
  item i s Q E y hy t k := W.item i s Q E (hn ▸ (List.getElem?_eq_some_iff.mp hy).1) t fun v h' tk hp t' hk => k v h' tk (hP i y v hy hp) t' fun b o hb e => hk b o (fun q => hb (List.mem_singleton.mp q)) e
  done s Q E t k := W.done s Q E (hn ▸ t) fun h' tk hk => k h' tk fun b o hb e => hk b o (fun q => hb (List.mem_singleton.mp q)) e
  self := W.self
  obj := hobj
theorem iter_ok {v : Value} {R : Value → Shared → Prop} (hi : itemsOf x = some xs) (k : Rm G A F s) (r : Rel F x v)
    (h : ∀ ob P, It G A F s.heap.objs.size xs P → P 0 (s.heap.push ob) → R (.ref s.heap.objs.size) { s with heap := s.heap.push ob }) : wpAny G.M A (pyIter v) R E s := by
  have ne : ∀ {a : Addr} {o : Obj}, F a = some o → a ≠ s.heap.objs.size := fun e => by rintro rfl; exact nomatch (size_none s.heap).symm.trans (k.sub _ _ e)
  have one : ∀ {a it : Addr} {o : Obj}, F a = some o → ∀ b ∈ [it, a], b ≠ it → ∃ o, F b = some o := fun e b hb hn => by
    rcases List.mem_cons.mp hb with q | q
    · exact absurd q hn
    · cases List.mem_singleton.mp q; exact ⟨_, e⟩
  have lst : ∀ {a : Addr} {o : Obj} {vs : List Value}, F a = some o → (o.cls = .type "list" ∧ ∃ n, o.data = .seq vs.toArray n) → RelL F xs vs → wpAny G.M A (pyIter (.ref a)) R E s := fun {a o vs} e q rl =>
    have hl : s.heap.IsList a vs.toArray := ⟨o, k.sub _ _ e, q⟩
    wpAny_pyIter_list hl (h _ _ (it_of (Walks.list k.handled _ a (ne e) vs.toArray) (by rw [List.size_toArray, rl.length]) (one e) (fun i y v hy hv => (rl.get hy).elim fun v' q => by
      have : vs[i]? = some v := by simpa using hv
      cases this.symm.trans q.1; exact q.2) fun i h t => t.1.elim fun o q => ⟨o, _, _, q.1, q.2.1, q.2.2, rfl⟩) ⟨⟨_, Heap.get?_push_size _ rfl, rfl, rfl⟩, hl.push _⟩)
  cases x <;> first | (cases hi; done) | (cases hi; skip)
  case str a =>
    obtain ⟨t, rfl⟩ := r
    have hP : ∀ (i : Nat) y v, (a.map fun c => V.str [c])[i]? = some y → SignAt ⟨a.toArray⟩ i v → Rel F y v := by
      rintro i y v hy ⟨c, u, hc, rfl⟩
      have hc : a[i]? = some c := by simpa using hc
      rw [List.getElem?_map, hc] at hy
      cases hy; exact ⟨u, rfl⟩
    have ob : ∀ T, ownTs.contains T = false → ∀ i (h : Heap), h.IsStrIter s.heap.objs.size T ⟨a.toArray⟩ t i → ∃ o T vs, h.get? s.heap.objs.size = some o ∧ o.cls = .type T ∧ o.data = .fields vs ∧ ownTs.contains T = false :=
      fun T hT i h q => q.elim fun o q => ⟨o, _, _, q.1, q.2.1, q.2.2, hT⟩
    cases ha : (⟨a.toArray⟩ : Str).cps.all (· < 128)
    · exact wpAny_pyIter_wide ha (h _ _ (it_of (Walks.strWide k.handled _ _ t) (by simp) (fun b hb hn => absurd (List.mem_singleton.mp hb) hn) hP (ob _ rfl)) ⟨_, Heap.get?_push_size _ rfl, rfl, rfl⟩)
    · exact wpAny_pyIter_ascii ha (h _ _ (it_of (Walks.strAscii k.handled _ _ t) (by simp) (fun b hb hn => absurd (List.mem_singleton.mp hb) hn) hP (ob _ rfl)) ⟨_, Heap.get?_push_size _ rfl, rfl, rfl⟩)
  case tup =>
    obtain ⟨a, vs, rfl, ⟨n, e⟩, rl⟩ := r
    have ht : s.heap.IsTuple a vs.toArray := ⟨_, k.sub _ _ e, rfl, n, rfl⟩
    exact wpAny_pyIter_tuple ht (h _ _ (it_of (Walks.tuple k.handled _ a (ne e) vs.toArray) (by rw [List.size_toArray, rl.length]) (one e) (fun i y v hy hv => (rl.get hy).elim fun v' q => by
      have : vs[i]? = some v := by simpa using hv
      cases this.symm.trans q.1; exact q.2) fun i h t => t.1.elim fun o q => ⟨o, _, _, q.1, q.2.1, q.2.2, rfl⟩) ⟨⟨_, Heap.get?_push_size _ rfl, rfl, rfl⟩, ht.at fun o e => Heap.get?_push_of_some _ e⟩)
  case lst =>
    obtain ⟨a, vs, rfl, ⟨n, e⟩, rl⟩ := r
    exact lst e ⟨rfl, n, rfl⟩ rl
  case scr =>
    obtain ⟨a, vs, rfl, ⟨o, e, q⟩, rl⟩ := r
    exact lst e q rl
  case rng a b =>
    obtain ⟨⟨h1, h2, h3, h4⟩, a', t, u, w, rfl, e⟩ := r
    refine wpAny_pyIter_range (k.sub _ _ e) (small_one h1 h2 h3 h4) (h _ _ (it_of (Walks.range k.handled _ a 1 (b - a).toNat) (by simp) (fun b hb hn => absurd (List.mem_singleton.mp hb) hn) ?_ fun i h q => ⟨_, _, _, q, rfl, rfl, rfl⟩) ?_)
    · rintro i y v hy ⟨u, rfl⟩
      have hlt : i < (b - a).toNat := by have := (List.getElem?_eq_some_iff.mp hy).1; simpa using this
      rw [List.getElem?_map, List.getElem?_range hlt] at hy
      cases hy; exact ⟨u, by rw [Int.mul_one]⟩
    · have e : Builtin.Range.rangeSize a b 1 = ((b - a).toNat : Int) := by rw [rangeSize_one]; split <;> (first | lia | omega)
      rw [e]
      have := Heap.get?_push_size s.heap (o := { cls := .type "range_iterator", data := .fields #[rawInt a, rawInt ((b - a).toNat : Int), rawInt 1] }) rfl
      show Heap.get? _ _ = _
      simpa using this
/-- an object, new since s₀, is changed -/
theorem Lk.priv {r : Addr} {h' : Heap} {t : Nat} (L : Lk env σ₀ F₀ s₀ σ F s) (hq : F r = none) (h0 : s₀.heap.get? r = none) (hs : Heap.ExtBut r s.heap h') : Lk env σ₀ F₀ s₀ σ F { s with heap := h', toks := t } :=
  have ne : ∀ b o, s₀.heap.get? b = some o → b ≠ r := fun b o e => by rintro rfl; exact nomatch h0.symm.trans e
  ⟨⟨L.S.up, fun a o e => hs a o (by rintro rfl; exact nomatch hq.symm.trans e) (L.S.sub a o e), fun b o e d => (L.S.keepO b o e d).imp fun o' q => ⟨hs b o' (ne b o e) q.1, q.2⟩, fun b o e => (L.S.live b o e).imp fun o' e' => ⟨hs b o' (ne b o e) e'.1, e'.2⟩, L.S.new, by rw [L.S.rest]⟩, L.d⟩

/-! ## for -/
def Asg (G : Gl) (K : Sx) (t : PySem.Expr) (y : V) (ρ ρ' : List V) : Prop := ∀ A env σ F s E v (R : Unit → Shared → Prop), FOk G K A env ρ σ F s → Rel F y v →
  (∀ h' tk, FOk G K A env ρ' σ F { s with heap := h', toks := tk } → Lk env σ F s σ F { s with heap := h', toks := tk } → (∀ b o, ¬ Own env b → s.heap.get? b = some o → h'.get? b = some o) → R () { s with heap := h', toks := tk }) → wpAny G.M A (assign t env v) R E s
theorem asg_name (i : Nat) {n : Str} (hx : nameOK K i n = true := by decide +kernel) : Asg G K (.Name n q) y ρ (ρ.set i y) := fun A env σ F s E v R k r h => wpAny_assign_Name (store_ok k hx r h)
theorem owned_go {target : PySem.Expr} {it : Addr} {v' : Value} {R : Unit → Shared → Prop} {M : Model} (ho : ∃ o T vs, s.heap.get? it = some o ∧ o.cls = .type T ∧ o.data = .fields vs ∧ ownTs.contains T = false) (k : R () s) : wpAny M A (letOwnedTupleGo target (.ref it) v') R E s := by
  obtain ⟨o, T, vs, ho, hc, hd, hT⟩ := ho
  unfold ownTs at hT
  unfold letOwnedTupleGo
  split
  all_goals first
    | exact wpAny_pure k
    | (split
       all_goals first
         | (rename_i heq
            cases heq
            refine wpAny_bind (wpAny_load ho ?_)
            rw [hc, hd]
            simp only [hT, Bool.false_and, Bool.false_eq_true, if_false]
            exact wpAny_pure k)
         | exact wpAny_pure k)
theorem forLoop_rule {prog : Program} {w : World} {R : Result → Shared → Prop} {Ex : Value → Shared → Prop} {target : PySem.Expr} {it : Value} {body : List PySem.Stmt} {env : Env} {s : Shared} (I : Nat → Shared → Prop)
    (hx : ∀ v s', Ex v s' → notedBy (model prog w) A env (fun e s' => R (.error e) s') v s')
    (turn : ∀ n s, I n s → wpAny (model prog w) A (pyNext it) (fun r s₁ => match r with
      | none => R (.ok .next) s₁
      | some v => wpAny (model prog w) A (letOwnedTupleGo target it v) (fun _ s₁' => wpAny (model prog w) A (assign target env v) (fun _ s₂ => wpAny (model prog w) A (execs body env) (fun f s₃ => match f with
          | .next | .cont => ∃ m, m < n ∧ I m s₃
          | .brk => R (.ok .next) s₃
          | .ret v => R (.ok (.ret v)) s₃) Ex s₂) Ex s₁') Ex s₁) Ex s)
    (n : Nat) (h : I n s) : codeAny (model prog w) A (.forLoop target it body [] env) R s := by
  refine codeAny_loop' rfl I (fun n s hI => ?_) n h
  show wpAny _ _ ((forTurn target it body [] env).onRaise (fun x => do noteFrame x env; theTreesLotGoes x)) _ _ s
  refine wpAny_noted ?_
  simp only [forTurn]
  refine wpAny_bind (wpAny_standAt (wpAny_bind (wpAny_onRaise (wpAny_mono (wpAny_mono (turn n s hI) (fun r s₁ h₁ => h₁) hx) (fun r s₁ h₁ => ?_) fun _ _ h' => wpAny_standAt h'))))
  cases r with
  | none => exact wpAny_pure (.inr ⟨rfl, codeAny_block (wpAny_execs_nil h₁)⟩)
  | some v =>
    refine wpAny_bind (wpAny_mono h₁ (fun _ s₁' h₁' => ?_) hx)
    refine wpAny_bind (wpAny_mono h₁' (fun _ s₂ h₂ => wpAny_bind (wpAny_mono h₂ (fun f s₃ h₃ => ?_) hx)) hx)
    cases f with
    | next => exact wpAny_pure (.inl ⟨rfl, h₃⟩)
    | cont => exact wpAny_pure (.inl ⟨rfl, h₃⟩)
    | brk => exact wpAny_pure h₃
    | ret v => exact wpAny_pure h₃
/-- what a frame's statements do to the records that are not its own -/
theorem Lk.recs (L : Lk env σ F s σ₁ F₁ s₁) (k : FOk G K A env ρ σ F s) : (∀ a o, F a = some o → F₁ a = some o) ∧ ∀ b o vs, s.heap.get? b = some o → o.data = .fields vs → F b = none → σ b = none → s₁.heap.get? b = some o ∧ F₁ b = none ∧ σ₁ b = none :=
  ⟨L.S.up, fun b o vs ho hd hF hσ => ⟨L.S.keep b o ho (fun q => q.elim (k.notOwn ho (fun _ _ e => nomatch hd.symm.trans e) fun _ e => nomatch hd.symm.trans e) fun q => q.elim fun _ q => (nomatch hσ.symm.trans q)) (fun _ _ e => nomatch hd.symm.trans e), L.S.out hF ho, by
    cases hq : σ₁ b with
    | none => rfl
    | some xs => exact (L.d b xs hq).elim (fun q => q.elim fun _ q => nomatch hσ.symm.trans q) fun q => nomatch ho.symm.trans q⟩⟩
/-- a loop, with what it is to keep -/
theorem for_core {R : Flow → Shared → Prop} {Ex : Value → Shared → Prop} (I : Nat → List V → Ow → Fz → Heap → Prop) (k : FOk G K A env ρ σ F s) (L₀ : Lk env σ₀ F₀ s₀ σ F s) (h1 : wpAny G.M A (eval e env) (fun v s₁ => ∃ F₁, St N0 F s F₁ s₁ ∧ Rel F₁ x v ∧ I 0 ρ σ F₁ s₁.heap) E s) (hi : itemsOf x = some xs)
    (hx : ∀ v s', Ex v s' → notedBy G.M A env (cameBackBy G.M A env E) v s')
    (stab : ∀ i ρ σ F (h h' : Heap), I i ρ σ F h → (∀ b o, h.get? b = some o → (∀ vs, o.data ≠ .fields vs) → h'.get? b = some o) → I i ρ σ F h')
    (turn : ∀ (i : Nat) ρ' σ' F' s' y v, xs[i]? = some y → FOk G K A env ρ' σ' F' s' → Lk env σ₀ F₀ s₀ σ' F' s' → I i ρ' σ' F' s'.heap → Rel F' y v → wpAny G.M A (assign t env v) (fun _ s₂ => wpAny G.M A (execs body env) (fun f s₃ => ∃ fl ρ₃ σ₃ F₃, FlRel F₃ f fl ∧ FOk G K A env ρ₃ σ₃ F₃ s₃ ∧ Lk env σ₀ F₀ s₀ σ₃ F₃ s₃ ∧
      ((∀ a o, F' a = some o → F₃ a = some o) ∧ ∀ b o vs, s'.heap.get? b = some o → o.data = .fields vs → F' b = none → σ' b = none → s₃.heap.get? b = some o ∧ F₃ b = none ∧ σ₃ b = none) ∧ (fl = .next → I (i + 1) ρ₃ σ₃ F₃ s₃.heap) ∧ (∀ x, fl = .ret x → R f s₃)) Ex s₂) Ex s')
    (fin : ∀ ρ' σ' F' s', FOk G K A env ρ' σ' F' s' → Lk env σ₀ F₀ s₀ σ' F' s' → I xs.length ρ' σ' F' s'.heap → R .next s') (hns : ∀ v, foldedSetIterable e env v = pure v) : wpAny G.M A (exec (.For t e body [] p) env) R E s :=
  wpAny_For (wpAny_mono h1 (fun v s₁ q => q.elim fun F₁ q => iter_ok hi (k.e.rm.step q.1) q.2.1 fun ob P W hP => by
    obtain ⟨S₁, r₁, h0⟩ := q
    have k₁ := k.e.step S₁
    have hn : s₁.heap.get? s₁.heap.objs.size = none := size_none _
    generalize s₁.heap.objs.size = it at *
    have S₂ : St N0 F₁ s₁ F₁ { s₁ with heap := s₁.heap.push ob } := St.grow (t := s₁.toks) k₁.rm.sub fun _ _ e => Heap.get?_push_of_some _ e
    have hs : s₀.heap.get? it = none := L₀.S.dead (S₁.dead hn)
    have hF : F₁ it = none := by
      cases q : F₁ it with
      | none => rfl
      | some o => exact nomatch hn.symm.trans (k₁.rm.sub _ _ q)
    refine forLoop_rule (Ex := Ex) (fun m s' => ∃ i ρ' σ' F', m + i = xs.length + 1 ∧ i ≤ xs.length ∧ FOk G K A env ρ' σ' F' s' ∧ Lk env σ₀ F₀ s₀ σ' F' s' ∧ (∀ a o, F₁ a = some o → F' a = some o) ∧ F' it = none ∧ σ' it = none ∧ P i s'.heap ∧ I i ρ' σ' F' s'.heap) hx (fun m s' => ?_) (xs.length + 1)
      ⟨0, ρ, σ, F₁, rfl, Nat.zero_le _, (k.step S₁).step S₂, L₀.trans (S₁.trans S₂).lk, fun _ _ e => e, hF, ?_, hP, stab _ _ _ _ _ _ h0 fun b o e _ => Heap.get?_push_of_some _ e⟩
    · rintro ⟨i, ρ', σ', F', hm, hle, k', L', up, hF', hσ', hP', hI⟩
      obtain ⟨oi, T, ovs, hoi, hc, hd, _⟩ := W.obj _ _ hP'
      have own : ¬ Own env it := k'.notOwn hoi (fun _ _ e => by rw [hd] at e; cases e) fun _ e => by rw [hd] at e; cases e
      have nofr : NoFr A it := k'.e.rm.nofr fun o es n e h => by cases hoi.symm.trans e; exact nomatch hd.symm.trans h
      have other : ∀ {h₁ : Heap} {t₁ : Nat}, Heap.ExtBut it s'.heap h₁ → FOk G K A env ρ' σ' F' { s' with heap := h₁, toks := t₁ } ∧ Lk env σ₀ F₀ s₀ σ' F' { s' with heap := h₁, toks := t₁ } ∧ ∀ j, I j ρ' σ' F' s'.heap → I j ρ' σ' F' h₁ := fun hs₁ =>
        ⟨k'.other hF' hs₁ own nofr fun a xs q => (k'.e.own a xs q).elim fun h1 h2 => ⟨h1, h2.imp fun vs h2 => h2.imp fun n h2 => ⟨hs₁ _ _ (by rintro rfl; exact nomatch hσ'.symm.trans q) h2.1, h2.2⟩⟩, L'.priv hF' hs hs₁, fun j h => stab j _ _ _ _ _ h fun b o e hb => hs₁ b o (by rintro rfl; cases hoi.symm.trans e; exact hb _ hd) e⟩
      rcases Nat.lt_or_ge i xs.length with hlt | hge
      · obtain ⟨y, hy⟩ : ∃ y, xs[i]? = some y := ⟨_, List.getElem?_eq_getElem hlt⟩
        refine W.item i s' _ Ex y hy hP' fun v' h₁ t₁ hr hP₁ hs₁ => owned_go (W.obj _ _ hP₁) ?_
        obtain ⟨k₁, L₁, st⟩ := other (t₁ := t₁) hs₁
        refine wpAny_mono (turn i ρ' σ' F' _ y v' hy k₁ L₁ (st i hI) (hr.mono up)) (fun _ s₂ q => wpAny_mono q (fun f s₃ h => ?_) fun _ _ e => e) fun _ _ e => e
        obtain ⟨fl, ρ₃, σ₃, F₃, hf, k₃, L₃, ⟨u₃, rec⟩, q1, q2⟩ := h
        cases f <;> cases fl <;> first | exact hf.elim | skip
        · obtain ⟨oi', T', vs', hoi', _, h3, _⟩ := W.obj _ _ hP₁
          obtain ⟨g1, g2, g3⟩ := rec it oi' vs' hoi' h3 hF' hσ'
          exact ⟨m - 1, by (first | lia | omega), i + 1, ρ₃, σ₃, F₃, by (first | lia | omega), hlt, k₃, L₃, fun a o e => u₃ a o (up a o e), g2, g3, W.keep _ _ _ hP₁ (fun a o e => k₁.e.rm.sub a o (up a o e)) (fun a o e => k₃.e.rm.sub a o (u₃ a o (up a o e))) fun o e => by cases hoi'.symm.trans e; exact g1, q1 rfl⟩
        · exact q2 _ rfl
      · cases Nat.le_antisymm hle hge
        refine W.done s' _ Ex hP' fun h₁ t₁ hs₁ => ?_
        obtain ⟨k₁, L₁, st⟩ := other (t₁ := t₁) hs₁
        exact fin ρ' σ' F' _ k₁ L₁ (st _ hI)
    · cases hq : σ it with
      | none => rfl
      | some xs => exact (k.e.own it xs hq).2.elim fun _ q => q.elim fun _ q => nomatch (S₁.dead hn).symm.trans q.1) fun _ _ e => e) hns
theorem ws_for (I : Nat → List V → Ow → Prop) (h1 : Ev G K ρ σ e x) (hi : itemsOf x = some xs) (h0 : I 0 ρ σ) (turn : ∀ (i : Nat) ρ σ y, xs[i]? = some y → I i ρ σ → ∃ ρ', Asg G K t y ρ ρ' ∧ WS G K body ρ' σ (Kf I (i + 1) Q)) (fin : ∀ ρ σ, I xs.length ρ σ → WS G K ss ρ σ Q) (hns : ∀ env v, foldedSetIterable e env v = pure v := by intros; rfl) : WS G K (.For t e body [] p :: ss) ρ σ Q :=
  ws_cons fun A env F s E k => for_core (R := PS G K A env σ F s (Kc G K ss Q)) (fun i ρ σ _ _ => I i ρ σ) k (St.refl k.e.rm.sub).lk (h1.bind k.e fun v F₁ s₁ S r _ => ⟨F₁, S, r, h0⟩) hi (fun _ _ h => h) (fun _ _ _ _ _ _ h _ => h) (fun i ρ' σ' F' s' y v hy k' L' hI hr => by
    obtain ⟨ρ₂, ha, hb⟩ := turn i ρ' σ' y hy hI
    refine ha A env σ' F' s' _ v _ k' hr fun h₂ t₂ k₂ L₂ _ => wpAny_mono (hb A env F' _ _ k₂) (fun f s₃ h => h.casesOn fun fl ρ₃ σ₃ F₃ hf k₃ L₃ q => ⟨fl, ρ₃, σ₃, F₃, hf, k₃, L'.trans (L₂.trans L₃), (L₂.trans L₃).recs k', ?_, ?_⟩) fun _ _ e => e
    · rintro rfl; exact q
    · rintro x rfl; exact ⟨_, ρ₃, σ₃, F₃, hf, k₃, (L'.trans L₂).trans L₃, q⟩) (fun ρ' σ' F' s' k' L' hI => ⟨.next, ρ', σ', F', trivial, k', L', fin ρ' σ' hI⟩) (hns env)
end
end Mine

set_option autoImplicit false
set_option linter.all false
set_option genSizeOf false
set_option genInjectivity false
set_option maxRecDepth 100000
namespace Mine
open PySem PyProof.Rows

section
variable {G : Gl} {K : Sx} {A : Around} {env : Env} {ρ ρ₁ : List V} {σ σ₀ σ₁ σ₂ : Ow} {F F₀ F₁ F₂ : Fz} {s s₀ s₁ s₂ : Shared} {E : Value → Shared → Prop} {Q : KS} {e c l : PySem.Expr} {es : List PySem.Expr} {ss body : List Stmt} {st : Stmt} {x y z : V} {p q q' ap : Pos} {b : Bool} {xs ys : List V} {f : Str}
/-! ## a pair of names as a target -/
theorem asg_tup2 (i j : Nat) {n m : Str} {kk : Nat} (hx : nameOK K i n = true := by decide +kernel) (hy : nameOK K j m = true := by decide +kernel) : Asg G K (.Tuple [.Name n q, .Name m q'] kk p) (.tup [y, z]) ρ ((ρ.set i y).set j z) := by
  rintro A env σ F s E _ R k ⟨a, _, rfl, ⟨n', e⟩, v, _, rfl, r1, w, _, rfl, r2, rfl⟩ h
  refine wpAny_assign_Tuple k.e.rm.handled ⟨_, k.e.rm.sub _ _ e, rfl, n', rfl⟩ rfl rfl fun h₁ hs => ?_
  have hg : ∀ b o, s.heap.get? b = some o → h₁.get? b = some o := fun b o e => hs b o (Nat.ne_of_lt (Heap.lt_size e)) e
  have S : St N0 F s F { s with heap := h₁, toks := s.toks } := .grow k.e.rm.sub hg
  refine wpAny_assignInOrder_more (wpAny_assign_Name (store_ok (k.step S) hx r1 fun h₂ t₂ k₂ L₂ hk₂ => ?_))
  refine wpAny_assignInOrder_more (wpAny_assign_Name (store_ok k₂ hy r2 fun h₃ t₃ k₃ L₃ hk₃ => ?_))
  exact wpAny_pure (h h₃ t₃ k₃ ((S.lk.trans L₂).trans L₃) fun b o hb e => hk₃ b o hb (hk₂ b o hb (hg b o e)))

/-! ## lists of one's own -/
theorem FOk.fresh (k : FOk G K A env ρ σ F s) (t : Nat) : FOk G K A env ρ (σ.set s.heap.objs.size []) F { s with heap := s.heap.push (lobj [] 0), toks := t } ∧ Lk env σ F s (σ.set s.heap.objs.size []) F { s with heap := s.heap.push (lobj [] 0), toks := t } := by
  have up : ∀ b o, s.heap.get? b = some o → (s.heap.push (lobj [] 0)).get? b = some o := fun b o e => Heap.get?_push_of_some _ e
  have S : St N0 F s F { s with heap := s.heap.push (lobj [] 0), toks := t } := .grow k.e.rm.sub up
  have hF : F s.heap.objs.size = none := by
    cases q : F s.heap.objs.size with
    | none => rfl
    | some o => exact nomatch (size_none s.heap).symm.trans (k.e.rm.sub _ _ q)
  have k' := k.step S
  refine ⟨⟨⟨k'.e.rm, k'.e.sc, k'.e.kind, k'.e.globals, k'.e.builtins, fun a xs q => ?_, k'.e.loc⟩, k'.top, k'.apart, k'.nodup, k'.own⟩, S.any, fun b xs q => ?_⟩
  · by_cases h : a = s.heap.objs.size
    · subst h; cases (Ow.set_self ..).symm.trans q; exact ⟨hF, [], 0, Heap.get?_push_size _ rfl, rfl⟩
    · exact k'.e.own a xs ((Ow.set_ne _ _ h).symm.trans q)
  · by_cases h : b = s.heap.objs.size
    · exact .inr (h ▸ size_none _)
    · exact .inl ⟨xs, (Ow.set_ne _ _ h).symm.trans q⟩
theorem FOk.sizeσ (k : FOk G K A env ρ σ F s) : σ s.heap.objs.size = none := by
  cases q : σ s.heap.objs.size with
  | none => rfl
  | some xs => exact (k.e.own _ xs q).2.elim fun _ q => q.elim fun _ q => nomatch (size_none s.heap).symm.trans q.1
theorem ws_new (i : Nat) {n : Str} (h : ∀ a, σ a = none → WS G K ss (ρ.set i (.ref a)) (σ.set a []) Q) (hx : nameOK K i n = true := by decide +kernel) : WS G K (.Assign [.Name n q] (.List [] q') p :: ss) ρ σ Q :=
  ws_cons fun A env F s E k => wpAny_Assign_Name (List_ (Calls.spliced_nil (wpAny_newObj_type (store_ok (x := .ref s.heap.objs.size) (k.fresh s.toks).1 hx rfl fun h' t k₂ L _ => ⟨.next, _, _, F, trivial, k₂, (k.fresh s.toks).2.trans L, h _ k.sizeσ⟩) (Nat.zero_le _)))) rfl
/-- a change of one list of one's own -/
theorem FOk.put {a : Addr} {h' : Heap} {t n : Nat} {vs : List Value} (k : FOk G K A env ρ σ F s) (ha : σ a = some xs) (hs : Heap.ExtBut a s.heap h') (hv : h'.get? a = some (lobj vs n)) (r : RelL F ys vs) :
    FOk G K A env ρ (σ.set a ys) F { s with heap := h', toks := t } ∧ Lk env σ F s (σ.set a ys) F { s with heap := h', toks := t } := by
  obtain ⟨hF, us, m, hu, _⟩ := k.e.own a xs ha
  refine ⟨k.other hF hs (k.notOwn hu (fun _ _ e => nomatch e) fun _ e => nomatch e) (k.e.rm.nofr fun o es n e h => by cases hu.symm.trans e; cases h) fun b zs q => ?_, St.change k.e.rm.sub hF (.inl (.inr ⟨xs, ha⟩)) hs ⟨_, hv, fun o e es n h => by cases hu.symm.trans e; cases h⟩, fun b zs q => ?_⟩
  · by_cases h : b = a
    · subst h; cases (Ow.set_self ..).symm.trans q; exact ⟨hF, vs, n, hv, r⟩
    · exact (k.e.own b zs ((Ow.set_ne _ _ h).symm.trans q)).imp id fun q => q.imp fun _ q => q.imp fun _ q => ⟨hs b _ h q.1, q.2⟩
  · by_cases h : b = a
    · exact .inl ⟨xs, h ▸ ha⟩
    · exact .inl ⟨zs, (Ow.set_ne _ _ h).symm.trans q⟩
theorem append_ok {a : Addr} {v : Value} {R : Value → Shared → Prop} (k : FOk G K A env ρ σ F s) (ha : σ a = some xs) (r : Rel F y v) (hl : xs.length ≤ sizeLine)
    (h : ∀ h', FOk G K A env ρ (σ.set a (xs ++ [y])) F { s with heap := h' } → Lk env σ F s (σ.set a (xs ++ [y])) F { s with heap := h' } → R .none { s with heap := h' }) : wpAny G.M A (call (.builtin "list.append") [.ref a, v]) R E s := by
  obtain ⟨hF, vs, n, hv, rl⟩ := k.e.own a xs ha
  refine wpAny_list_append_plain ⟨n, hv⟩ (fun h' hp hs => ?_) (by rw [List.size_toArray, rl.length]; exact hl)
  obtain ⟨n', hp⟩ := hp
  have hp' : h'.get? a = some (lobj (vs ++ [v]) n') := by rw [hp]; simp [lobj]
  exact h h' (k.put (t := s.toks) ha hs.extBut hp' (rl.append (.one r))).1 (k.put (t := s.toks) ha hs.extBut hp' (rl.append (.one r))).2
theorem get_append {a : Addr} {F : Fz} {s : Shared} {v : Value} {pl : Sem Bool} {R : Value × List Value → Shared → Prop} (ha : σ a = some xs) (k : EOk G K A env ρ σ F s) (r : Rel F (.ref a) v) (h : R (.builtin "list.append", [v]) s) : wpAny G.M A (getMethod v "append" pl) R E s := by
  cases show v = .ref a from r
  obtain ⟨_, vs, n, hv, _⟩ := k.own a xs ha
  exact Calls.getMethod_list_append hv rfl rfl h
theorem ws_append {a : Addr} (h1 : Ev G K ρ σ l (.ref a)) (ha : σ a = some xs) (h2 : Ev G K ρ σ e y) (hl : xs.length ≤ sizeLine) (h : WS G K ss ρ (σ.set a (xs ++ [y])) Q) (hn : ∀ n env t, attributeBase l n env t = t := by intros; rfl) (hp : (ap.endLine == q.line) = true := by rfl) (hs : notStar e = true := by rfl) :
    WS G K (.Expr (.Call (.Attribute l "append" ap) [e] [] q) p :: ss) ρ σ Q :=
  ws_cons fun A env F s E k => wpAny_Expr_any (meth_ok (id := "list.append") h1 hn hp (by rw [List.all_cons, hs]; rfl) (Nat.lt_of_sub_eq_succ rfl) (evl_cons h2 evl_nil) k.e (fun F s v pl Q k => get_append ha k)
    (by rintro v _ F₁ s₁ S k₁ r ⟨w, _, rfl, r2, rfl⟩
        cases show v = .ref a from r
        exact append_ok (k.step S) ha r2 hl fun h' k₂ L => ⟨.next, ρ, _, F₁, trivial, k₂, S.lk.trans L, h⟩)) (by unfold interactive; rw [k.e.kind]; rfl) rfl
/-- a pair of a value and a new list is appended -/
theorem ws_append_new {a : Addr} {p₁ p₂ : Pos} {m : Nat} (h1 : Ev G K ρ σ l (.ref a)) (ha : σ a = some xs) (h2 : Ev G K ρ σ e y) (hl : xs.length ≤ sizeLine) (h : ∀ b, σ b = none → b ≠ a → WS G K ss ρ ((σ.set b []).set a (xs ++ [.tup [y, .ref b]])) Q) (hn : ∀ n env t, attributeBase l n env t = t := by intros; rfl) (hp : (ap.endLine == q.line) = true := by rfl) (hs : notStar e = true := by rfl) :
    WS G K (.Expr (.Call (.Attribute l "append" ap) [.Tuple [e, .List [] p₁] m p₂] [] q) p :: ss) ρ σ Q :=
  ws_cons fun A env F s E k => wpAny_Expr_any (meth_gen (id := "list.append") h1 hn hp rfl (Nat.lt_of_sub_eq_succ rfl) k.e (fun F s v pl Q k => get_append ha k)
    (fun v F₁ s₁ S k₁ r => by
      cases show v = .ref a from r
      refine Calls.spliced_cons (Tuple_ ?_)
      rw [back_star p₂ env (es := [e, .List [] p₁]) (by rw [List.all_cons, hs]; rfl)]
      refine Calls.spliced_cons (h2.bind k₁ fun w F₂ s₂ S₂ r₂ k₂ => Calls.spliced_cons (List_ (Calls.spliced_nil (wpAny_newObj_type (Calls.spliced_nil ?_) (Nat.zero_le _)))))
      have kf := (k.step S).step S₂
      obtain ⟨k₃, L₃⟩ := kf.fresh s₂.toks
      have hb := kf.sizeσ
      have hba : s₂.heap.objs.size ≠ a := by rintro e; rw [e, ha] at hb; cases hb
      refine wpAny_mono (newTuple_ok (xs := [y, .ref s₂.heap.objs.size]) k₃.e.rm ⟨w, _, rfl, r₂, _, _, rfl, rfl, rfl⟩ (by show 2 ≤ sizeLine; decide)) (fun u s₄ q => q.casesOn fun F₄ S₄ r₄ => Calls.spliced_nil ?_) fun _ _ e => e
      exact append_ok (k₃.step S₄) ((Ow.set_ne _ _ hba.symm).trans ha) r₄ hl fun h' k₅ L₅ => ⟨.next, ρ, _, F₄, trivial, k₅, (((S.trans S₂).lk.trans L₃).trans S₄.lk).trans L₅, h _ hb hba⟩)) (by unfold interactive; rw [k.e.kind]; rfl) rfl

/-! ## a call that changes one list -/
structure Proc (G : Gl) (f : Str) (xs : List V) (a : Addr) (acc acc' : List V) : Prop where
  is : ∃ o fd, G.mg f = some (.ref (G.fn f)) ∧ G.B.get? (G.fn f) = some o ∧ o.data = .func fd
  run : ∀ A F s E vs us n, Rm G A F s → RelL F xs vs → F a = none → s.heap.get? a = some (lobj us n) → RelL F acc us →
    wpAny G.M A (call (.ref (G.fn f)) vs) (fun _ s' => ∃ F' us' n', St (· = a) F s F' s' ∧ s'.heap.get? a = some (lobj us' n') ∧ RelL F' acc' us') E s
theorem ws_proc {a : Addr} {acc acc' : List V} (h : Proc G f xs a acc acc') (ha : EvL G K ρ σ es xs) (hσ : σ a = some acc) (h2 : WS G K ss ρ (σ.set a acc') Q) (hs : es.all notStar = true := by rfl) (hg : globOK K f = true := by decide +kernel) :
    WS G K (.Expr (.Call (.Name f q) es [] q') p :: ss) ρ σ Q :=
  ws_cons fun A env F s E k => wpAny_Expr_any (by
    obtain ⟨o, fd, hf, ho, hfd⟩ := h.is
    refine wpAny_Call_NameR (name_global k.e (.inl hf) hg ?_)
    rw [back_star q' env hs]
    refine Calls.callWith_function (evalArgs_list (all_false es env) (ha.bind k.e fun vs F₁ s₁ S₁ r₁ k₁ => ⟨⟨k₁.rm.in _ _ ho, hfd⟩, ?_⟩))
    obtain ⟨hF, us, n, hu, ru⟩ := k₁.own a acc hσ
    refine wpAny_mono (h.run A F₁ s₁ E vs us n k₁.rm r₁ hF hu ru) (fun _ s₂ q => ?_) fun _ _ e => e
    obtain ⟨F₂, us', n', S₂, hu', ru'⟩ := q
    have k₁' := k.step S₁
    -- first the list alone, in the heap of the end; then the rest, which only grows
    have own : ¬ Own env a := k₁'.notOwn hu (fun _ _ e => nomatch e) fun _ e => nomatch e
    have upO : ∀ b o, b ≠ a → s₁.heap.get? b = some o → ∃ o', s₂.heap.get? b = some o' ∧ KeepO o o' := fun b o hb e => S₂.keepO b o e hb
    have up : ∀ b o, b ≠ a → s₁.heap.get? b = some o → (∀ es n, o.data ≠ .dict es n) → s₂.heap.get? b = some o := fun b o hb e hd => S₂.keep b o e hb hd
    have k₃ : FOk G K A env ρ (σ.set a acc') F₂ s₂ := ⟨⟨k₁.rm.step S₂, k₁.sc, k₁.kind, k₁.globals, k₁.builtins, fun b zs q => ?_,
      ⟨k₁.loc.len, k₁.loc.vars.elim fun _ q => (Ns_obj q.1).elim fun _ e => S₂.out k₁.loc.out e, k₁.loc.vars.imp fun m r => ⟨ns_keepO r.1 fun o e => upO _ o (fun e => own (.inl e.symm)) e, fun i x v hx hv => ⟨fun hk => ((r.2 i x v hx hv).1 hk).mono S₂.up, fun hk => ((r.2 i x v hx hv).2 hk).imp fun c u => u.imp fun ov u =>
        ⟨u.1, u.2.1.imp fun oc w => ⟨up _ _ (by rintro rfl; exact own (.inr ⟨x, mem_of_lookup u.1⟩)) w.1 (fun _ _ e => nomatch w.2.symm.trans e), w.2⟩, u.2.2.1.mono S₂.up, u.2.1.elim fun _ w => S₂.out u.2.2.2 w.1⟩⟩⟩⟩⟩,
      k.top, k.apart, k.nodup, fun x c hc => (k₁'.own x c hc).elim fun h1 h2 => ⟨h1.imp fun _ h => h.imp fun _ h => ⟨up _ _ (by rintro rfl; exact own (.inr ⟨x, hc⟩)) h.1 (fun _ _ e => nomatch h.2.symm.trans e), h.2⟩, h1.elim fun _ h => h.elim fun _ h => S₂.out h2 h.1⟩⟩
    · refine ⟨.next, ρ, _, F₂, trivial, k₃, S₁.lk.trans ⟨S₂.weaken fun b o _ q => .inr ⟨acc, q ▸ hσ⟩, fun b zs q => ?_⟩, h2⟩
      by_cases hb : b = a
      · exact .inl ⟨acc, hb ▸ hσ⟩
      · exact .inl ⟨zs, (Ow.set_ne _ _ hb).symm.trans q⟩
    · by_cases hb : b = a
      · subst hb; cases (Ow.set_self ..).symm.trans q; exact ⟨S₂.out hF hu, us', n', hu', ru'⟩
      · exact (k₁.own b zs ((Ow.set_ne _ _ hb).symm.trans q)).elim fun h1 h2 => h2.elim fun ws h2 => h2.elim fun m h2 => ⟨S₂.out h1 h2.1, ws, m, up _ _ hb h2.1 (fun _ _ e => nomatch e), h2.2.mono S₂.up⟩) (by unfold interactive; rw [k.e.kind]; rfl) rfl
end
end Mine

set_option autoImplicit false
set_option linter.all false
set_option genSizeOf false
set_option genInjectivity false
set_option maxRecDepth 100000
namespace Mine
open PySem PyProof.Rows

/-! ## what a frame hands back: its own lists are frozen -/
mutual
inductive Res (σ : Ow) : V → V → Prop
  | id (x : V) : Res σ x x
  | own {a : Addr} {xs ys : List V} : σ a = some xs → ResL σ xs ys → Res σ (.ref a) (.lst ys)
  | tup {xs ys : List V} : ResL σ xs ys → Res σ (.tup xs) (.tup ys)
inductive ResL (σ : Ow) : List V → List V → Prop
  | nil : ResL σ [] []
  | cons {x y : V} {xs ys : List V} : Res σ x y → ResL σ xs ys → ResL σ (x :: xs) (y :: ys)
end
theorem ResL.same {σ : Ow} : ∀ xs : List V, ResL σ xs xs
  | [] => .nil
  | x :: xs => .cons (.id x) (ResL.same xs)
theorem Res.frz {σ : Ow} {a : Addr} {xs : List V} (h : σ a = some xs) : Res σ (.ref a) (.lst xs) := .own h (.same xs)
section
variable {σ : Ow} {F F' : Fz}
mutual
theorem Res.rel (up : ∀ a o, F a = some o → F' a = some o) (ho : ∀ a xs, σ a = some xs → ∃ vs n, F' a = some (lobj vs n) ∧ RelL F xs vs) : ∀ {x y : V} {v : Value}, Res σ x y → Rel F x v → Rel F' y v
  | _, _, _, .id _, r => r.mono up
  | _, _, _, .own h q, r => (ho _ _ h).elim fun vs t => t.elim fun n t => ⟨_, vs, r, ⟨n, t.1⟩, ResL.rel up ho q t.2⟩
  | _, _, _, .tup q, r => r.imp fun _ r => r.imp fun _ r => ⟨r.1, r.2.1.imp fun _ => up _ _, ResL.rel up ho q r.2.2⟩
theorem ResL.rel (up : ∀ a o, F a = some o → F' a = some o) (ho : ∀ a xs, σ a = some xs → ∃ vs n, F' a = some (lobj vs n) ∧ RelL F xs vs) : ∀ {xs ys : List V} {vs : List Value}, ResL σ xs ys → RelL F xs vs → RelL F' ys vs
  | _, _, _, .nil, r => r
  | _, _, _, .cons a b, r => r.imp fun _ r => r.imp fun _ r => ⟨r.1, Res.rel up ho a r.2.1, ResL.rel up ho b r.2.2⟩
end
end
def retP (P : V → Prop) : KS := fun fl _ σ => match fl with | .ret x => ∃ z, Res σ x z ∧ P z | .next => P .none
structure PureP (G : Gl) (f : Str) (xs : List V) (P : V → Prop) : Prop where
  is : ∃ o fd, G.mg f = some (.ref (G.fn f)) ∧ G.B.get? (G.fn f) = some o ∧ o.data = .func fd
  run : ∀ A F s E vs, Rm G A F s → RelL F xs vs → wpAny G.M A (call (.ref (G.fn f)) vs) (fun v s' => ∃ z, P z ∧ PV F s z v s') E s
def retQ (z : V) : KS := fun fl _ σ => match fl with | .ret x => Res σ x z | .next => z = .none
def procQ (a : Addr) (acc : List V) : KS := fun _ _ σ => σ a = some acc
def σ0 : Ow := fun _ => none
noncomputable def σ1 (a : Addr) (xs : List V) : Ow := σ0.set a xs

/-! ## entering a function of the text -/
def fnChk (K : Sx) (np : Nat) : Bool :=
  !K.sc.isCoroutine && !K.sc.isGenerator && K.sc.kind == .function && (K.ns.all fun x => K.sc.names.lookup x == some .local || K.sc.names.lookup x == some .cell) && decide (((cellsFrom 0 K.sc.names []).map (·.1)).Nodup) && decide K.ns.Nodup && decide (np ≤ K.ns.length)
/-- a function object: its names, the number of its parameters, its text -/
structure FnO (B : Heap) (fa : Addr) (K : Sx) (np : Nat) (sts : List Stmt) : Prop where
  obj : ∃ o fd, B.get? fa = some o ∧ o.data = .func fd ∧ B.CodeRec fd.code fd.qualname ∧ fd.body = .stmts sts ∧ fd.closure = [] ∧ fd.globals = mainGlobals ∧ fd.builtins = builtinsNs ∧
    (∀ vs : List Value, vs.length = np → bindArgs fd ⟨vs, []⟩ = pure ((K.ns.take np).zip vs)) ∧ fd.scope = K.sc
  chk : fnChk K np = true
structure FnAt (B : Heap) (mg : Str → Option Value) (f : Str) (K : Sx) (np : Nat) (sts : List Stmt) : Prop where
  obj : ∃ o fd, mg f = some (.ref (fnA mg f)) ∧ B.get? (fnA mg f) = some o ∧ o.data = .func fd ∧ B.CodeRec fd.code fd.qualname ∧ fd.body = .stmts sts ∧ fd.closure = [] ∧ fd.globals = mainGlobals ∧ fd.builtins = builtinsNs ∧
    (∀ vs : List Value, vs.length = np → bindArgs fd ⟨vs, []⟩ = pure ((K.ns.take np).zip vs)) ∧ fd.scope = K.sc
  chk : fnChk K np = true
theorem FnAt.o {B : Heap} {mg : Str → Option Value} {f : Str} {K : Sx} {np : Nat} {sts : List Stmt} (h : FnAt B mg f K np sts) : FnO B (fnA mg f) K np sts := ⟨h.obj.imp fun _ q => q.imp fun _ q => q.2, h.chk⟩
section
variable {kindOf : Str → Option NameKind}
theorem bindL_miss : ∀ {binds : List (Str × Value)} {m : Str → Option Value} {x : Str}, (∀ y ∈ binds, y.1 ≠ x) → bindL kindOf binds m x = m x
  | [], _, _, _ => rfl
  | (n, v) :: r, m, x, h => by
    unfold bindL
    rw [bindL_miss fun y hy => h y (List.mem_cons_of_mem _ hy)]
    split
    · exact if_neg fun e => h (n, v) (List.mem_cons_self ..) e.symm
    · rfl
theorem bindC_miss : ∀ {binds : List (Str × Value)} {m : Str → Option Value} {x : Str}, (∀ y ∈ binds, y.1 ≠ x) → bindC kindOf binds m x = m x
  | [], _, _, _ => rfl
  | (n, v) :: r, m, x, h => by
    unfold bindC
    rw [bindC_miss fun y hy => h y (List.mem_cons_of_mem _ hy)]
    split
    · rfl
    · exact if_neg fun e => h (n, v) (List.mem_cons_self ..) e.symm
theorem zip_miss {ps : List Str} {vs : List Value} {x : Str} (h : x ∉ ps) : ∀ y ∈ ps.zip vs, y.1 ≠ x := fun y hy e => h (e ▸ (List.of_mem_zip (show (y.1, y.2) ∈ ps.zip vs from hy)).1)
theorem bind_hit : ∀ {ps : List Str} {vs : List Value} {m : Str → Option Value} {i : Nat} {x : Str} {v : Value}, ps.Nodup → ps[i]? = some x → vs[i]? = some v →
    (kindOf x = some .local → bindL kindOf (ps.zip vs) m x = some v) ∧ (kindOf x ≠ some .local → bindC kindOf (ps.zip vs) m x = some v)
  | [], _, _, _, _, _, _, h, _ => nomatch h
  | _ :: _, [], _, _, _, _, _, _, h => nomatch h
  | p :: ps, v :: vs, m, 0, x, w, hn, h1, h2 => by
    cases h1; cases h2
    have hm := zip_miss (vs := vs) (List.nodup_cons.mp hn).1
    refine ⟨fun hk => ?_, fun hk => ?_⟩
    · show bindL kindOf (ps.zip vs) _ p = _
      rw [bindL_miss hm, if_pos hk]; exact if_pos rfl
    · show bindC kindOf (ps.zip vs) _ p = _
      rw [bindC_miss hm, if_neg hk]; exact if_pos rfl
  | p :: ps, v :: vs, m, i + 1, x, w, hn, h1, h2 => ⟨fun hk => (bind_hit (List.nodup_cons.mp hn).2 h1 h2).1 hk, fun hk => (bind_hit (List.nodup_cons.mp hn).2 h1 h2).2 hk⟩
end
theorem cellsFrom_keys : ∀ (names : List (Str × NameKind)) (n k : Nat) (acc acc' : List (Str × Addr)), acc.map (·.1) = acc'.map (·.1) → (cellsFrom n names acc).map (·.1) = (cellsFrom k names acc').map (·.1)
  | [], _, _, _, _, h => h
  | (x, kd) :: r, n, k, acc, acc', h => by
    unfold cellsFrom
    split
    · exact cellsFrom_keys r _ _ _ _ (by simp [h])
    · exact cellsFrom_keys r _ _ _ _ h
theorem lookup_of_mem : ∀ {l : List (Str × Addr)} {x : Str} {c : Addr}, (l.map (·.1)).Nodup → (x, c) ∈ l → l.lookup x = some c
  | (y, d) :: r, x, c, hn, hm => by
    rw [List.map_cons, List.nodup_cons] at hn
    rcases List.mem_cons.mp hm with e | hm'
    · cases e; simp
    · have hne : x ≠ y := by rintro rfl; exact hn.1 (List.mem_map_of_mem (f := (·.1)) hm')
      rw [List.lookup_cons, beq_false_of_ne hne]
      exact lookup_of_mem hn.2 hm'
theorem St.then {D D₁ : Addr → Prop} {F F₁ F₂ : Fz} {s s₁ s₂ : Shared} (x : St N0 F s F₁ s₁) (y : St D₁ F₁ s₁ F₂ s₂) (h : ∀ b o, s.heap.get? b = some o → D₁ b → D b) : St D F s F₂ s₂ :=
  ⟨fun a o e => y.up a o (x.up a o e), y.sub, fun b o e d => (x.keepO b o e id).elim fun o' r => (y.keepO b o' r.1 fun q => d (h b o e q)).imp fun _ t => ⟨t.1, r.2.trans t.2⟩, fun b o e => (x.live b o e).elim fun o' e' => (y.live b o' e'.1).imp fun _ r => ⟨r.1, e'.2.trans r.2⟩, fun b o e => (y.new b o e).elim (x.new b o) fun q => .inr (x.dead q), by rw [y.rest, x.rest]⟩
section
variable {G : Gl} {f : Str} {K : Sx} {np : Nat} {sts : List Stmt} {xs : List V} {σ : Ow} {A : Around} {F : Fz} {s : Shared} {vs : List Value} {R : Result → Shared → Prop} {Q : KS}
theorem enter_core {fa : Addr} (FA : FnO G.B fa K np sts) (hlen : xs.length = np) (hd : 0 < G.d) (k : Rm G A F s) (r : RelL F xs vs) (hσ : ∀ a xs, σ a = some xs → F a = none ∧ ∃ vs n, s.heap.get? a = some (lobj vs n) ∧ RelL F xs vs)
    (body : ∀ env s₁, FOk G.dn K (A.deeper env) env (xs ++ List.replicate (K.ns.length - np) .unb) σ F s₁ → St N0 F s F s₁ → (∀ b, Own env b → s.heap.get? b = none) → (∀ q o, s.heap.get? q = some o → NoFr A q → NoFr (A.deeper env) q) →
      wpAny G.M (A.deeper env) (execs sts env) (fun f s' => R (.ok (.ret (match f with | .ret v => v | _ => .none))) s') (fun e s' => wpAny G.M (A.deeper env) (leaving env e) (fun _ s'' => R (.error e) s'') (fun e' s'' => R (.error e') s'') s') s₁) :
    codeAny G.M A (.call (.ref fa) ⟨vs, []⟩) R s := by
  obtain ⟨⟨o, fd, ho, hdat, hcd, hbody, hclo, hglob, hblt, hbind, hsc⟩, chk⟩ := FA
  unfold fnChk at chk
  simp only [Bool.and_eq_true, Bool.not_eq_true', beq_iff_eq, decide_eq_true_eq] at chk
  obtain ⟨⟨⟨⟨⟨⟨hco, hgen⟩, hk⟩, hkinds⟩, hcn⟩, hnd⟩, hnp⟩ := chk
  have hvl : vs.length = np := r.length.trans hlen
  have htl : (K.ns.take np).length = np := by rw [List.length_take]; exact Nat.min_eq_left hnp
  have hpn : (K.ns.take np).Nodup := hnd.sublist (List.take_sublist ..)
  have hkind : ∀ x ∈ K.ns, K.sc.names.lookup x = some .local ∨ K.sc.names.lookup x = some .cell := fun x hx => (Bool.or_eq_true_iff.mp (List.all_eq_true.mp hkinds x hx)).imp eq_of_beq eq_of_beq
  have hcs : ∀ n x, K.sc.names.lookup x = some .cell → ((cellsFrom n K.sc.names []).lookup x).isSome = true := fun n x hc => PySem.W.cellsFrom_some _ _ _ (.inl hc)
  rw [← hsc] at hco hgen hk
  refine codeAny_call_cells (by have := k.depth; (first | lia | omega)) (k.in _ _ ho) hdat (k.go.nolimit.keeps k.in) (hcd.keeps k.in) hbody (hbind vs hvl) hclo (fun x hx => ?_) (fun s₁ x => ?_) hco hgen hk
  · rw [hsc]
    exact (hkind x.1 (List.mem_of_mem_take (List.of_mem_zip (show (x.1, x.2) ∈ (K.ns.take np).zip vs from hx)).1)).imp id fun q => ⟨q, hcs _ _ q⟩
  obtain ⟨h₁, tk, rfl⟩ := x.toInCall.same
  have S₁ : St N0 F s F { s with heap := h₁, toks := tk } := .grow k.sub x.toInCall.keep
  have out : ∀ {a : Addr}, s.heap.get? a = none → F a = none := fun {a} h => by
    cases q : F a with
    | none => rfl
    | some o => exact nomatch h.symm.trans (k.sub _ _ q)
  have hLn : s.heap.get? (callEnvC fd s.heap.objs.size fa).locals = none := size_none _
  have hCn : ∀ y c, (y, c) ∈ (callEnvC fd s.heap.objs.size fa).cells → s.heap.get? c = none := fun y c hm => by
    cases q : s.heap.get? c with
    | none => rfl
    | some o' => exact absurd (Heap.lt_size q) (Nat.not_lt.mpr (Nat.le_of_lt (x.above y c hm)))
  have hcn' : ((callEnvC fd s.heap.objs.size fa).cells.map (·.1)).Nodup := by
    show ((cellsFrom (s.heap.objs.size + 1) fd.scope.names []).map (·.1)).Nodup
    rw [hsc, cellsFrom_keys K.sc.names (s.heap.objs.size + 1) 0 [] [] rfl]; exact hcn
  have cell : ∀ y, K.sc.names.lookup y = some .cell → ∃ c, (callEnvC fd s.heap.objs.size fa).cells.lookup y = some c := fun y hc => by
    show ∃ c, (cellsFrom (s.heap.objs.size + 1) fd.scope.names []).lookup y = some c
    rw [hsc]; exact Option.isSome_iff_exists.mp (hcs _ y hc)
  have k₁ : FOk G.dn K (A.deeper (callEnvC fd s.heap.objs.size fa)) (callEnvC fd s.heap.objs.size fa) (xs ++ List.replicate (K.ns.length - np) .unb) σ F { s with heap := h₁, toks := tk } := by
    refine ⟨⟨⟨⟨k.go.g, k.go.b, k.go.nolimit, k.go.blt⟩, k.base, S₁.sub, ?_, ?_, k.handled, ?_⟩, hsc, hk, hglob, hblt, fun a xs q => (hσ a xs q).imp id fun t => t.imp fun _ t => t.imp fun _ t => ⟨x.toInCall.keep _ _ t.1, t.2⟩,
      ⟨by rw [List.length_append, List.length_replicate, hlen]; (first | lia | omega), out hLn, _, x.toInCall.ns, fun i y v hy hv => ?_⟩⟩, k.frames.imp fun _ q => Around.frames_deeper q.1, x.apart, hnd, fun y c hm => ⟨⟨_, x.cell y c (lookup_of_mem hcn' hm)⟩, out (hCn y c hm)⟩⟩
    · have := k.depth; show A.depth + 1 + (G.d - 1) ≤ recursionLimit; (first | lia | omega)
    · have := k.units; show A.units + 3 + 10 * (G.d - 1) + 100 ≤ cLine; (first | lia | omega)
    · obtain ⟨l, hl, hfr⟩ := k.frames
      refine ⟨_, Around.frames_deeper hl, fun env' m => (List.mem_cons.mp m).elim (fun e => ?_) fun m => (hfr.step S₁) env' m⟩
      subst e
      exact ⟨by rw [show (callEnvC fd s.heap.objs.size fa).scope.kind = .function from hk]; decide, _, rfl, out hLn, x.toInCall.ns.imp fun o t => t.imp fun es t => t.imp fun n t => ⟨t.1, t.2.1⟩⟩
    · have ek : (callEnvC fd s.heap.objs.size fa).kindOf y = K.sc.names.lookup y := by show fd.scope.names.lookup y = _; rw [hsc]
      by_cases hi : i < np
      · rw [List.getElem?_append_left (by rw [hlen]; exact hi)] at hv
        obtain ⟨w, hw, rw'⟩ := r.get hv
        have hb := bind_hit (kindOf := (callEnvC fd s.heap.objs.size fa).kindOf) (m := fun _ => none) hpn (by rw [List.getElem?_take, if_pos hi]; exact hy) hw
        refine ⟨fun hl => ?_, fun hc => (cell y hc).imp fun c hcc => ⟨some w, hcc, ?_, relO_some rw', out (hCn y c (mem_of_lookup hcc))⟩⟩
        · rw [hb.1 (ek.trans hl)]; exact relO_some rw'
        · rw [← hb.2 (by rw [ek, hc]; decide)]; exact x.cell y c hcc
      · rw [List.getElem?_append_right (by rw [hlen]; (first | lia | omega))] at hv
        obtain ⟨_, hv⟩ := List.getElem?_eq_some_iff.mp hv
        rw [List.getElem_replicate] at hv
        subst hv
        exact ⟨fun _ h => absurd rfl h, fun hc => (cell y hc).imp fun c hcc => ⟨_, hcc, x.cell y c hcc, fun h => absurd rfl h, out (hCn y c (mem_of_lookup hcc))⟩⟩
  refine body _ _ k₁ S₁ (fun b hb => hb.elim (fun e => e ▸ hLn) fun q => q.elim fun y hy => hCn y b hy) fun q oq e hA l hl env' m hq => ?_
  obtain ⟨l₀, hl₀, _⟩ := k.frames
  cases (Around.frames_deeper hl₀).symm.trans hl
  rcases List.mem_cons.mp m with rfl | m
  · cases show some (callEnvC fd s.heap.objs.size fa).locals = some q from hq
    exact nomatch hLn.symm.trans e
  · exact hA l₀ hl₀ env' m hq
theorem enter_ok {fa : Addr} (FA : FnO G.B fa K np sts) (hlen : xs.length = np) (hd : 0 < G.d) (h : WS G.dn K sts (xs ++ List.replicate (K.ns.length - np) .unb) σ Q) (k : Rm G A F s) (r : RelL F xs vs) (hσ : ∀ a xs, σ a = some xs → F a = none ∧ ∃ vs n, s.heap.get? a = some (lobj vs n) ∧ RelL F xs vs)
    (fin : ∀ fl v σ' F' s', FlRel F' (.ret v) fl ∨ (fl = .next ∧ v = .none) → (∀ a xs, σ' a = some xs → F' a = none ∧ ∃ vs n, s'.heap.get? a = some (lobj vs n) ∧ RelL F' xs vs) → St (fun a => ∃ xs, σ a = some xs) F s F' s' → (∀ b xs, σ' b = some xs → (∃ ys, σ b = some ys) ∨ s.heap.get? b = none) → (∃ ρ, Q fl ρ σ') → R (.ok (.ret v)) s') :
    codeAny G.M A (.call (.ref fa) ⟨vs, []⟩) R s := by
  refine enter_core FA hlen hd k r hσ fun env s₁ k₁ S₁ hown _ => wpAny_mono (h _ _ _ _ _ k₁) (fun f' s' hp => hp.casesOn fun fl ρ' σ' F' hf k' L q => ?_) fun _ _ e => e
  have S : St (fun a => ∃ xs, σ a = some xs) F s F' s' := S₁.then L.S fun b o e q => q.elim (fun q => nomatch e.symm.trans (hown b q)) id
  cases f' <;> cases fl <;> first | exact hf.elim | skip
  · exact fin .next .none σ' F' s' (.inr ⟨rfl, rfl⟩) k'.e.own S (fun b xs q => (L.d b xs q).imp id S₁.dead) ⟨ρ', q⟩
  · exact fin _ _ σ' F' s' (.inl hf) k'.e.own S (fun b xs q => (L.d b xs q).imp id S₁.dead) ⟨ρ', q⟩
theorem dl {G : Gl} {a b : Nat} (h : b ≤ G.d) (hab : a + 1 ≤ b := by decide) : a ≤ G.dn.d := Nat.le_sub_of_add_le (Nat.le_trans hab h)
theorem dl0 {G : Gl} {b : Nat} (h : b ≤ G.d) (hab : 2 ≤ b := by decide) : 0 < G.dn.d := Nat.le_sub_of_add_le (Nat.le_trans hab h)
theorem pureO_of {fa : Addr} (FA : FnO G.B fa K np sts) {P : V → Prop} (hlen : xs.length = np) (hd : 0 < G.d) (h : WS G.dn K sts (xs ++ List.replicate (K.ns.length - np) .unb) σ0 (retP P)) : ∀ A F s E vs, Rm G A F s → RelL F xs vs → wpAny G.M A (call (.ref fa) vs) (fun v s' => ∃ z, P z ∧ PV F s z v s') E s := fun A F s E vs k r =>
  wpAny_call (enter_ok FA hlen hd h k r (fun _ _ q => nomatch q) fun fl v σ' F' s' hf own S d q => by
    classical
    let F₂ : Fz := fun b => match F' b with | some o => some o | none => if ∃ xs, σ' b = some xs then s'.heap.get? b else none
    have up : ∀ a o, F' a = some o → F₂ a = some o := fun a o e => by show (match F' a with | some o => some o | none => _) = _; rw [e]
    have at_ : ∀ a xs, σ' a = some xs → F₂ a = s'.heap.get? a := fun a xs q => by
      show (match F' a with | some o => some o | none => _) = _
      rw [(own a xs q).1]; exact if_pos ⟨xs, q⟩
    have back : ∀ a o, F₂ a = some o → F' a = some o ∨ ((∃ xs, σ' a = some xs) ∧ s'.heap.get? a = some o) := fun a o e => by
      revert e
      show (match F' a with | some o => some o | none => if ∃ xs, σ' a = some xs then s'.heap.get? a else none) = _ → _
      cases F' a with
      | some o' => exact fun e => .inl e
      | none => exact fun e => (Classical.em (∃ xs, σ' a = some xs)).elim (fun h => .inr ⟨h, (if_pos h).symm.trans e⟩) fun h => nomatch (if_neg h).symm.trans e
    have S₂ : St N0 F s F₂ s' := ⟨fun a o e => up a o (S.up a o e), fun a o e => (back a o e).elim (S.sub a o) (·.2), fun b o e _ => S.keepO b o e fun q => q.elim fun _ q => (nomatch q), S.live,
      fun b o e => (back b o e).elim (S.new b o) fun q => q.1.elim fun xs q => (d b xs q).elim (fun q => q.elim fun _ q => (nomatch q)) .inr, S.rest⟩
    obtain ⟨ρ, q⟩ := q
    rcases hf with hf | ⟨rfl, rfl⟩
    · cases fl with
      | next => exact hf.elim
      | ret x => exact q.imp fun z q => ⟨q.2, F₂, S₂, Res.rel up (fun a xs q => (own a xs q).2.imp fun vs t => t.imp fun n t => ⟨(at_ a xs q).trans t.1, t.2⟩) q.1 hf⟩
    · exact ⟨.none, q, F₂, S₂, rfl⟩)
theorem purep_of (FA : FnAt G.B G.mg f K np sts) {P : V → Prop} (hlen : xs.length = np) (hd : 0 < G.d) (h : WS G.dn K sts (xs ++ List.replicate (K.ns.length - np) .unb) σ0 (retP P)) : PureP G f xs P :=
  ⟨FA.obj.imp fun _ q => q.imp fun _ q => ⟨q.1, q.2.1, q.2.2.1⟩, pureO_of FA.o hlen hd h⟩
theorem pure_of (FA : FnAt G.B G.mg f K np sts) {z : V} (hlen : xs.length = np) (hd : 0 < G.d) (h : WS G.dn K sts (xs ++ List.replicate (K.ns.length - np) .unb) σ0 (retQ z)) : Pure G f xs z :=
  have := purep_of (P := (· = z)) FA hlen hd (ws_mono h fun fl ρ σ q => by cases fl; exact q.symm; exact ⟨z, q, rfl⟩)
  ⟨this.is, fun A F s E vs k r => wpAny_mono (this.run A F s E vs k r) (fun _ _ q => q.elim fun _ q => q.1 ▸ q.2) fun _ _ e => e⟩
theorem proc_of (FA : FnAt G.B G.mg f K np sts) {a : Addr} {acc acc' : List V} (hlen : xs.length = np) (hd : 0 < G.d) (h : WS G.dn K sts (xs ++ List.replicate (K.ns.length - np) .unb) (σ1 a acc) (procQ a acc')) : Proc G f xs a acc acc' :=
  ⟨FA.obj.imp fun _ q => q.imp fun _ q => ⟨q.1, q.2.1, q.2.2.1⟩, fun A F s E vs us n k r hF hu ru => wpAny_call (enter_ok FA.o hlen hd h k r (fun b ys q => by
      by_cases e : b = a
      · subst e; cases (Ow.set_self ..).symm.trans q; exact ⟨hF, us, n, hu, ru⟩
      · exact nomatch (Ow.set_ne _ _ e).symm.trans q) fun fl v σ' F' s' hf own S d q => q.elim fun ρ q => (own a acc' q).2.elim fun us' t => t.elim fun n' t =>
    ⟨F', us', n', S.weaken fun b o _ q => q.elim fun ys q => Classical.byContradiction fun e => (nomatch (Ow.set_ne _ _ e).symm.trans q), t.1, t.2⟩)⟩
theorem ws_asgP {ρ : List V} {es : List PySem.Expr} {ss : List Stmt} {P : V → Prop} {n : Str} {p q q' pc : Pos} (i : Nat) (h : PureP G f xs P) (ha : EvL G K ρ σ es xs) (h2 : ∀ z, P z → WS G K ss (ρ.set i z) σ Q) (hs : es.all notStar = true := by rfl) (hg : globOK K f = true := by decide +kernel) (hx : nameOK K i n = true := by decide +kernel) :
    WS G K (.Assign [.Name n q] (.Call (.Name f q') es [] pc) p :: ss) ρ σ Q :=
  ws_cons fun A env F s E k => wpAny_Assign_Name (by
    obtain ⟨o, fd, hf, ho, hfd⟩ := h.is
    refine wpAny_Call_NameR (name_global k.e (.inl hf) hg ?_)
    rw [back_star pc env hs]
    refine Calls.callWith_function (evalArgs_list (all_false es env) (ha.bind k.e fun vs F₁ s₁ S₁ r₁ k₁ => ⟨⟨k₁.rm.in _ _ ho, hfd⟩, wpAny_mono (h.run A F₁ s₁ E vs k₁.rm r₁) (fun v s₂ q => ?_) fun _ _ e => e⟩))
    obtain ⟨z, hz, F₂, S₂, r₂⟩ := q
    have S := S₁.trans S₂
    exact store_ok (k.step S) hx r₂ fun h' t k₂ L _ => ⟨.next, _, σ, F₂, trivial, k₂, S.lk.trans L, h2 z hz⟩) rfl
end
end Mine

set_option autoImplicit false
set_option linter.all false
set_option genSizeOf false
set_option genInjectivity false
set_option maxRecDepth 100000
namespace Mine
open PySem PyProof.Rows

/-! ## list comprehensions -/
def relabelS (scope sc : Scope) : Scope :=
  { scope with names := scope.names.map fun (n, k) => if (k == .free && sc.kind == .function && sc.names.lookup n == some .cell) then (n, .cell) else (n, k) }
def nm (K : Sx) (i : Nat) : Str := K.ns.getD i Str.empty
def compChk (K : Sx) (caps : List Nat) (ys : List Str) (scope : Scope) : Bool :=
  scope.kind == .function && scope.names.all (fun x => x.2 != .cell) && scope.names.all (fun x => x.2 != .local || scope.names.lookup x.1 == some .local) && (ys.all fun y => scope.names.lookup y == some .local) &&
  caps.all (fun i => decide (i < K.ns.length) && (relabelS scope K.sc).names.lookup (nm K i) == some .cell) && scope.names.all (fun x => x.2 != .free || (K.sc.names.lookup x.1 == some .cell && K.ns.contains x.1))
def Sx.comp (K : Sx) (caps : List Nat) (ys : List Str) (scope : Scope) : Sx := ⟨relabelS scope K.sc, caps.map (nm K) ++ ys⟩
def ρc (ρ : List V) (caps : List Nat) (xs : List V) : List V := caps.map (fun i => ρ.getD i .unb) ++ xs
structure CompOk (K : Sx) (caps : List Nat) (ys : List Str) (scope : Scope) : Prop where
  kind : scope.kind = .function
  nocell : ∀ x ∈ scope.names, x.2 ≠ .cell
  locals : ∀ x ∈ scope.names, x.2 = .local → scope.names.lookup x.1 = some .local
  tgt : ∀ y ∈ ys, scope.names.lookup y = some .local
  caps : ∀ i ∈ caps, i < K.ns.length ∧ (relabelS scope K.sc).names.lookup (nm K i) = some .cell
  free : ∀ x ∈ scope.names, x.2 = .free → K.sc.names.lookup x.1 = some .cell ∧ x.1 ∈ K.ns
theorem compOk_of {K : Sx} {caps : List Nat} {ys : List Str} {scope : Scope} (h : compChk K caps ys scope = true) : CompOk K caps ys scope := by
  unfold compChk at h
  simp only [Bool.and_eq_true, beq_iff_eq, List.all_eq_true, Bool.or_eq_true, bne_iff_ne, ne_eq, decide_eq_true_eq, List.contains_iff_mem] at h
  obtain ⟨⟨⟨⟨⟨h1, h2⟩, h3⟩, h4⟩, h5⟩, h6⟩ := h
  exact ⟨h1, h2, fun x hx e => (h3 x hx).elim (fun q => absurd e q) id, h4, h5, fun x hx e => (h6 x hx).elim (fun q => absurd e q) id⟩
def closL (env : Env) : List (Str × NameKind) → List (Str × Addr) → List (Str × Addr)
  | [], acc => acc
  | (n, k) :: r, acc => if k == .free then closL env r ((n, (env.cells.lookup n).getD 0) :: acc) else closL env r acc
theorem closure_eq {env : Env} {scope : Scope} (h : ∀ x ∈ scope.names, x.2 = .free → ∃ c, env.cells.lookup x.1 = some c) : closureFor scope env = pure (closL env scope.names []) := by
  have key : ∀ (l : List (Str × NameKind)) (acc : List (Str × Addr)), (∀ x ∈ l, x.2 = .free → ∃ c, env.cells.lookup x.1 = some c) →
      (forIn l acc fun (x : Str × NameKind) (r : List (Str × Addr)) => (if (x.2 == .free) = true then do let a ← cellOf env x.1; pure (ForInStep.yield ((x.1, a) :: r)) else pure (ForInStep.yield r) : Sem (ForInStep (List (Str × Addr))))) = pure (closL env l acc) := by
    intro l
    induction l with
    | nil => intro acc _; rfl
    | cons a l ih =>
      intro acc hl
      obtain ⟨n, k⟩ := a
      rw [List.forIn_cons]
      unfold closL
      by_cases hk : (k == .free) = true
      · obtain ⟨c, hc⟩ := hl (n, k) (List.mem_cons_self ..) (eq_of_beq hk)
        have hc' : env.cells.lookup n = some c := hc
        simp only [hk, if_true, cellOf, hc', pure_bind, Option.getD_some]
        exact ih _ fun x hx => hl x (List.mem_cons_of_mem _ hx)
      · simp only [hk, pure_bind, Bool.false_eq_true, if_false]
        exact ih _ fun x hx => hl x (List.mem_cons_of_mem _ hx)
  have := key scope.names [] h
  unfold closureFor
  have e2 : ∀ (t : Sem (List (Str × Addr))), t = pure (closL env scope.names []) → (t >>= fun cs => (pure cs : Sem (List (Str × Addr)))) = pure (closL env scope.names []) := fun t e => by rw [e]; rfl
  exact e2 _ this
theorem closL_look {env : Env} : ∀ (l : List (Str × NameKind)) (acc : List (Str × Addr)) (n : Str) (c : Addr), env.cells.lookup n = some c → (∀ d, acc.lookup n = some d → d = c) → ((n, NameKind.free) ∈ l ∨ acc.lookup n = some c) → (closL env l acc).lookup n = some c
  | [], acc, n, c, _, _, h => h.elim (fun h => nomatch h) id
  | (y, k) :: r, acc, n, c, hc, ha, h => by
    have rest : (n, NameKind.free) ∈ r ∨ acc.lookup n = some c → (closL env r acc).lookup n = some c := closL_look r acc n c hc ha
    unfold closL
    split
    · rename_i hk
      have hk := eq_of_beq hk
      by_cases hy : n = y
      · subst hy
        have e : (((n, (env.cells.lookup n).getD 0) :: acc).lookup n) = some c := by rw [List.lookup_cons_self, hc]; rfl
        exact closL_look r _ n c hc (fun d hd => Option.some.inj (hd.symm.trans e)) (.inr e)
      · have e : (((y, (env.cells.lookup y).getD 0) :: acc).lookup n) = acc.lookup n := by rw [List.lookup_cons, beq_false_of_ne hy]
        exact closL_look r _ n c hc (fun d hd => ha d (e.symm.trans hd)) (h.imp (fun h => (List.mem_cons.mp h).elim (fun q => absurd (congrArg Prod.fst q) hy) id) fun h => e.trans h)
    · rename_i hk
      exact rest (h.imp (fun h => (List.mem_cons.mp h).elim (fun q => absurd (by cases q; rfl) hk) id) id)
theorem relabel_cell {sc : Scope} : ∀ {names : List (Str × NameKind)} {x : Str}, (∀ y ∈ names, y.2 ≠ .cell) →
    (names.map fun (n, k) => if (k == NameKind.free && sc.kind == .function && sc.names.lookup n == some .cell) then (n, NameKind.cell) else (n, k)).lookup x = some .cell → (x, NameKind.free) ∈ names
  | (n, k) :: r, x, hc, h => by
    rw [List.map_cons] at h
    by_cases hk : (k == NameKind.free && sc.kind == .function && sc.names.lookup n == some .cell) = true
    · simp only [hk, if_true, List.lookup_cons] at h
      split at h
      · rename_i e
        cases eq_of_beq e
        rw [eq_of_beq (Bool.and_eq_true_iff.mp (Bool.and_eq_true_iff.mp hk).1).1]
        exact List.mem_cons_self ..
      · exact List.mem_cons_of_mem _ (relabel_cell (fun y hy => hc y (List.mem_cons_of_mem _ hy)) h)
    · simp only [hk, Bool.false_eq_true, if_false, List.lookup_cons] at h
      split at h
      · cases h; exact absurd rfl (hc (n, .cell) (List.mem_cons_self ..))
      · exact List.mem_cons_of_mem _ (relabel_cell (fun y hy => hc y (List.mem_cons_of_mem _ hy)) h)
theorem St.priv {D : Addr → Prop} {F₀ F : Fz} {s₀ s : Shared} {r : Addr} {h' : Heap} {t : Nat} (S : St D F₀ s₀ F s) (hq : F r = none) (h0 : s₀.heap.get? r = none) (hs : Heap.ExtBut r s.heap h') : St D F₀ s₀ F { s with heap := h', toks := t } :=
  have ne : ∀ b o, s₀.heap.get? b = some o → b ≠ r := fun b o e => by rintro rfl; exact nomatch h0.symm.trans e
  ⟨S.up, fun a o e => hs a o (by rintro rfl; exact nomatch hq.symm.trans e) (S.sub a o e), fun b o e d => (S.keepO b o e d).imp fun o' q => ⟨hs b o' (ne b o e) q.1, q.2⟩, fun b o e => (S.live b o e).imp fun o' e' => ⟨hs b o' (ne b o e) e'.1, e'.2⟩, S.new, by rw [S.rest]⟩
theorem Rm.out {G : Gl} {A : Around} {F : Fz} {s : Shared} (R : Rm G A F s) {a : Addr} (h : s.heap.get? a = none) : F a = none := by
  cases q : F a with
  | none => rfl
  | some o => exact nomatch h.symm.trans (R.sub _ _ q)

section
variable {G : Gl} {K : Sx} {A : Around} {env : Env} {ρ : List V} {σ : Ow} {F : Fz} {s : Shared} {E : Value → Shared → Prop} {caps : List Nat} {y : Str} {scope : Scope} {e' it₀ : PySem.Expr} {py p q : Pos} {ifs : List PySem.Expr} {x : V} {xs : List V}
theorem comp_cell {ys : List Str} (O : CompOk K caps ys scope) (k : EOk G K A env ρ σ F s) {z : Str} (hz : (z, NameKind.free) ∈ scope.names) : ∃ (i : Nat) (v : V) (c : Addr) (ov : Option Value), K.ns[i]? = some z ∧ ρ[i]? = some v ∧ env.cells.lookup z = some c ∧ s.heap.IsCell c ov ∧ RelO F v ov ∧ F c = none := by
  obtain ⟨h1, h2⟩ := O.free _ hz rfl
  obtain ⟨mm, _, vars⟩ := k.loc.vars
  obtain ⟨i, hi, e⟩ := List.getElem_of_mem h2
  have hi' : K.ns[i]? = some z := by rw [List.getElem?_eq_getElem hi, e]
  have hl : i < ρ.length := by rw [k.loc.len]; exact hi
  obtain ⟨c, ov, g⟩ := (vars i z _ hi' (List.getElem?_eq_getElem hl)).2 h1
  exact ⟨i, _, c, ov, hi', List.getElem?_eq_getElem hl, g⟩
theorem comp_env {C : Addr} {mC : Str → Option Value} {ys : List Str} {xs : List V} (O : CompOk K caps ys scope) (k : EOk G K A env ρ σ F s) (hn : s.heap.Ns C mC) (hF : F C = none) (hlen : xs.length = ys.length) (hv : ∀ (j : Nat) y x, ys[j]? = some y → xs[j]? = some x → ∃ v, mC y = some v ∧ Rel F x v) :
    EOk G (K.comp caps ys scope) A (compEnvC scope (closL env scope.names []) C env) (ρc ρ caps xs) σ F s := by
  have hrel : relabel scope env = relabelS scope K.sc := by unfold relabel relabelS; rw [← k.sc]; rfl
  refine ⟨k.rm, hrel, by show (relabel scope env).kind = _; exact O.kind, k.globals, k.builtins, k.own, ⟨by simp [ρc, Sx.comp, hlen], hF, mC, hn, fun i z w hz hw => ?_⟩⟩
  by_cases hi : i < caps.length
  · unfold ρc at hw
    unfold Sx.comp at hz
    rw [List.getElem?_append_left (by simpa using hi)] at hw
    rw [List.getElem?_append_left (by simpa using hi)] at hz
    rw [List.getElem?_map, List.getElem?_eq_getElem hi] at hz hw
    cases hz; cases hw
    obtain ⟨hc1, hc2⟩ := O.caps _ (List.getElem_mem hi)
    refine ⟨fun hl => (nomatch hc2.symm.trans hl), fun _ => ?_⟩
    have hf := relabel_cell O.nocell hc2
    obtain ⟨j, v', c, ov, h1, h2, h3, h4, h5, h6⟩ := comp_cell O k hf
    refine ⟨c, ov, closL_look _ _ _ c h3 (fun d hd => nomatch hd) (.inl hf), h4, ?_, h6⟩
    have hl : caps[i] < ρ.length := by rw [k.loc.len]; exact hc1
    obtain ⟨mm, _, vars⟩ := k.loc.vars
    have hnm : K.ns[caps[i]]? = some (nm K caps[i]) := by unfold nm; rw [List.getD_eq_getElem?_getD, List.getElem?_eq_getElem hc1]; rfl
    obtain ⟨c', ov', q1, q2, q3, _⟩ := (vars caps[i] _ _ hnm (List.getElem?_eq_getElem hl)).2 (O.free _ hf rfl).1
    cases h3.symm.trans q1
    obtain ⟨o1, e1, d1⟩ := h4
    obtain ⟨o2, e2, d2⟩ := q2
    cases e1.symm.trans e2
    cases d1.symm.trans d2
    show RelO F (ρ.getD caps[i] .unb) ov
    rw [List.getD_eq_getElem?_getD, List.getElem?_eq_getElem hl]; exact q3
  · unfold ρc at hw
    unfold Sx.comp at hz
    rw [List.getElem?_append_right (by simpa using hi)] at hw hz
    rw [List.length_map] at hw hz
    have hk : (relabelS scope K.sc).names.lookup z = some .local := by rw [← hrel]; exact lookup_relabel_local (O.tgt z (List.mem_of_getElem? hz))
    obtain ⟨v, e, r⟩ := hv _ z w hz hw
    exact ⟨fun _ => e ▸ relO_some r, fun hc => nomatch hk.symm.trans hc⟩
/-- what one turn of a comprehension gives -/
def Turn (G : Gl) (K : Sx) (ρ : List V) (σ : Ow) (ifs : List PySem.Expr) (e : PySem.Expr) (r : Option V) : Prop :=
  (ifs = [] ∧ ∃ z, r = some z ∧ Ev G K ρ σ e z) ∨ ∃ c b, ifs = [c] ∧ Tr G K ρ σ c b ∧ (b = true → ∃ z, r = some z ∧ Ev G K ρ σ e z) ∧ (b = false → r = none)
theorem turn_all {ρ' : List V} {z : V} (h : Ev G K ρ' σ e' z) : Turn G K ρ' σ [] e' (some z) := .inl ⟨rfl, z, rfl, h⟩
theorem turn_if {ρ' : List V} {c : PySem.Expr} {b : Bool} {z : V} (h1 : Tr G K ρ' σ c b) (h2 : b = true → Ev G K ρ' σ e' z) : Turn G K ρ' σ [c] e' (if b then some z else none) :=
  .inr ⟨c, b, rfl, h1, fun e => ⟨z, by rw [e]; rfl, h2 e⟩, fun e => by rw [e]; rfl⟩
theorem Turn.test {F₁ : Fz} {s₁ : Shared} {ρ' : List V} {r : Option V} (h : Turn G K ρ' σ ifs e' r) (k : EOk G K A env ρ' σ F₁ s₁) {R : Bool → Shared → Prop} (h1 : ∀ F₂ s₂ z, St N0 F₁ s₁ F₂ s₂ → EOk G K A env ρ' σ F₂ s₂ → r = some z → Ev G K ρ' σ e' z → R true s₂) (h2 : ∀ F₂ s₂, St N0 F₁ s₁ F₂ s₂ → r = none → R false s₂) :
    wpAny G.M A (forIn ifs true fun c r => if r = true then do let ok ← isTrue c env (eval c env); pure (ForInStep.yield ok) else pure (ForInStep.yield r)) R E s₁ := by
  rcases h with ⟨rfl, z, hr, hz⟩ | ⟨c, b, rfl, hc, ht, hf⟩
  · exact wpAny_tests_nil (h1 F₁ s₁ z (.refl k.rm.sub) k hr hz)
  · refine wpAny_tests_one (hc.bind k fun F₂ s₂ S k₂ => ?_)
    cases b
    · exact h2 F₂ s₂ S (hf rfl)
    · exact (ht rfl).elim fun z q => h1 F₂ s₂ z S k₂ q.1 q.2
/-- a comprehension's loop, whatever its target -/
theorem compLoop_rule {prog : Program} {w : World} {R : Result → Shared → Prop} {elt target iter : PySem.Expr} {ifs : List PySem.Expr} {scope : Scope} {pos : Pos} {it acc : Value} {env : Env} {s : Shared} (I : Nat → Shared → Prop)
    (turn : ∀ n s E, I n s → wpAny (model prog w) A (pyNext it) (fun r s₁ => match r with
      | none => R (.ok .next) s₁
      | some v => wpAny (model prog w) A (letOwnedTupleGo target it v) (fun _ s₁' => wpAny (model prog w) A (assign target env v) (fun _ s₂ =>
          wpAny (model prog w) A (forIn ifs true fun c r => if r = true then do let ok ← isTrue c env (eval c env); pure (ForInStep.yield ok) else pure (ForInStep.yield r)) (fun ok s₃ =>
            if ok = true then wpAny (model prog w) A (eval elt env) (fun x s₄ => wpAny (model prog w) A (call (.builtin "list.append") [acc, x]) (fun _ s₅ => ∃ m, m < n ∧ I m s₅) E s₄) E s₃ else ∃ m, m < n ∧ I m s₃) E s₂) E s₁') E s₁) E s)
    (n : Nat) (h : I n s) : codeAny (model prog w) A (.compLoop (.ListComp elt [⟨target, iter, ifs, 0⟩] scope pos) 0 it acc env) R s := by
  refine codeAny_loop rfl I (fun n s hI => ?_) n h
  show wpAny _ A ((compTurn (.ListComp elt [⟨target, iter, ifs, 0⟩] scope pos) 0 it acc env).onRaise (fun x => do noteFrame x env; theTreesLotGoes x)) _ _ s
  refine wpAny_noted ?_
  rw [compTurn_list]
  refine wpAny_bind (wpAny_standAt (wpAny_bind (wpAny_mono (turn n s _ hI) (fun r s₁ h₁ => ?_) fun _ _ h' => h')))
  cases r with
  | none => exact wpAny_pure h₁
  | some v =>
    refine wpAny_bind (wpAny_mono h₁ (fun _ s₁' h₂ => wpAny_bind (wpAny_mono h₂ (fun _ s₂ h₂ => wpAny_bind (wpAny_mono h₂ (fun ok s₃ h₃ => ?_) fun _ _ h' => h')) fun _ _ h' => h')) fun _ _ h' => h')
    cases ok with
    | false => exact wpAny_pure ⟨rfl, h₃⟩
    | true => exact wpAny_bind (wpAny_bind (wpAny_mono h₃ (fun x s₄ h₄ => wpAny_bind (wpAny_mono h₄ (fun _ s₅ h₅ => wpAny_pure (wpAny_pure ⟨rfl, h₅⟩)) fun _ _ h' => h')) fun _ _ h' => h'))
/-- the target of a comprehension: a name, or two -/
inductive Tg (K : Sx) : PySem.Expr → List Str → V → List V → Prop
  | one (y : Str) (p : Pos) (x : V) : Tg K (.Name y p) [y] x [x]
  | two (y z : Str) (p q r : Pos) (kk : Nat) (x w : V) (h : y ≠ z) : Tg K (.Tuple [.Name y p, .Name z q] kk r) [y, z] (.tup [x, w]) [x, w]
theorem Tg.assign {t : PySem.Expr} {ys : List Str} {x : V} {xs : List V} {cenv : Env} {m : Str → Option Value} {v : Value} {R : Unit → Shared → Prop} (h : Tg K t ys x xs) (hh : A.handled = none) (sub : ∀ a o, F a = some o → s.heap.get? a = some o) (hl : ∀ y ∈ ys, cenv.kindOf y = some .local) (hp : (cenv.scope.kind == .class || (cenv.scope.kind == .module && cenv.locals != cenv.globals)) = false) (hn : s.heap.Ns cenv.locals m) (hF : F cenv.locals = none) (r : Rel F x v)
    (k : ∀ h' tk m', h'.Ns cenv.locals m' → xs.length = ys.length → (∀ (j : Nat) y x, ys[j]? = some y → xs[j]? = some x → ∃ v, m' y = some v ∧ Rel F x v) → (∀ b o, b ≠ cenv.locals → s.heap.get? b = some o → h'.get? b = some o) → R () { s with heap := h', toks := tk }) : wpAny G.M A (assign t cenv v) R E s := by
  cases h with
  | one y p => exact wpAny_assign_Name (wpAny_storeName_local (hl y (List.mem_cons_self ..)) hn (fun h' hn' hs' => k h' _ _ hn' rfl (fun j z w hz hw => by
      cases j with
      | zero => cases hz; cases hw; exact ⟨v, if_pos rfl, r⟩
      | succ j => cases hz) hs'.extBut) hp)
  | two y z p q rr kk x w hne =>
    obtain ⟨a, _, rfl, ⟨n', e⟩, v, _, rfl, r1, u, _, rfl, r2, rfl⟩ := r
    refine wpAny_assign_Tuple hh ⟨_, sub _ _ e, rfl, n', rfl⟩ rfl rfl fun h₁ hs => ?_
    have hg : ∀ b o, s.heap.get? b = some o → h₁.get? b = some o := fun b o e => hs b o (Nat.ne_of_lt (Heap.lt_size e)) e
    refine wpAny_assignInOrder_more (wpAny_assign_Name (wpAny_storeName_local (hl y (List.mem_cons_self ..)) (ns_keep hn fun o e => hg _ o e) (fun h₂ hn₂ hs₂ => ?_) hp))
    refine wpAny_assignInOrder_more (wpAny_assign_Name (wpAny_storeName_local (hl z (List.mem_cons_of_mem _ (List.mem_cons_self ..))) hn₂ (fun h₃ hn₃ hs₃ => ?_) hp))
    refine wpAny_pure (k h₃ _ _ hn₃ rfl (fun j y' x' hy hx => ?_) fun b o hb e => hs₃.extBut b o hb (hs₂.extBut b o hb (hg b o e)))
    match j with
    | 0 => cases hy; cases hx; exact ⟨v, by rw [if_neg hne, if_pos rfl], r1⟩
    | 1 => cases hy; cases hx; exact ⟨u, if_pos rfl, r2⟩
    | j + 2 => cases hy
theorem comp_core {T : Type} {Fv : T → V} {Fw : T → List V} {ys : List Str} {tg : PySem.Expr} {ts : List T} (f : T → Option V) (htg : ∀ t, Tg K tg ys (Fv t) (Fw t)) (hchk : compChk K caps ys scope = true) (hit : Ev G K ρ σ it₀ x) (hi : itemsOf x = some (ts.map Fv)) (hl : ts.length ≤ sizeLine) (hsf : ∀ env x, foldedSetIterable it₀ env x = pure x) (ht : ∀ t ∈ ts, Turn G (K.comp caps ys scope) (ρc ρ caps (Fw t)) σ ifs e' (f t)) (k : EOk G K A env ρ σ F s)
    {use : Option (Value → Sem Unit)} {Qp : Value → Shared → Prop} {gp : Pos}
    (fin : ∀ D C F' s' mC vs n, St N0 F s F' s' → s.heap.get? D = none → s.heap.get? C = none → D ≠ C → F' D = none → F' C = none → s'.heap.get? D = some (lobj vs n) → RelL F' (ts.filterMap f) vs → s'.heap.Ns C mC → compPost G.M A E use Qp (.ref D) C (.ok .next) s') :
    wpAny G.M A (comprehension (.ListComp e' [⟨tg, it₀, ifs, 0⟩] scope p) scope env gp (newList []) false (eval it₀ env) use) Qp E s := by
  have O := compOk_of hchk
  refine wpAny_comprehension_free rfl (hsf env) (closure_eq fun z hz hf => by
    obtain ⟨n, kd⟩ := z
    cases (show kd = .free from hf)
    obtain ⟨_, _, c, _, _, _, h3, _⟩ := comp_cell O k hz
    exact ⟨c, h3⟩) O.kind O.locals (hit.bind k fun cv F₁ s₁ S₁ r₁ k₁ => iter_ok hi k₁.rm r₁ fun ob P W hP => wpAny_newObj_type ?_)
  refine wpAny_newFunctionEnv (closure := closL env scope.names []) O.nocell (by intro z hz; simp at hz) (fun h₁ hns₁ hsb₁ => ?_) O.kind
  dsimp only at hns₁ hsb₁ ⊢
  have hitn : s₁.heap.get? s₁.heap.objs.size = none := size_none _
  generalize s₁.heap.objs.size = it at *
  have up₂ : ∀ b o, s₁.heap.get? b = some o → (s₁.heap.push ob).get? b = some o := fun b o e => Heap.get?_push_of_some _ e
  generalize s₁.heap.push ob = H1 at *
  have hDn : H1.get? H1.objs.size = none := size_none _
  have hD0 : (H1.push { cls := .type "list", dict := none, data := .seq ([] : List Value).toArray }).get? H1.objs.size = some (lobj [] 0) := Heap.get?_push_size _ rfl
  have up₃ : ∀ b o, H1.get? b = some o → (H1.push { cls := .type "list", dict := none, data := .seq ([] : List Value).toArray }).get? b = some o := fun b o e => Heap.get?_push_of_some _ e
  have hCn : (H1.push { cls := .type "list", dict := none, data := .seq ([] : List Value).toArray }).get? (H1.push { cls := .type "list", dict := none, data := .seq ([] : List Value).toArray }).objs.size = none := size_none _
  generalize H1.push { cls := .type "list", dict := none, data := .seq ([] : List Value).toArray } = H2 at *
  generalize H1.objs.size = D at *
  generalize H2.objs.size = C at *
  have dead : ∀ {h h' : Heap} {b : Addr}, (∀ b o, h.get? b = some o → h'.get? b = some o) → h'.get? b = none → h.get? b = none := fun {h h' b} u e => by
    cases q : h.get? b with
    | none => rfl
    | some o => exact nomatch e.symm.trans (u b o q)
  have hDC : D ≠ C := by rintro rfl; exact nomatch hCn.symm.trans hD0
  have hD1 : s₁.heap.get? D = none := dead up₂ hDn
  have hC1 : s₁.heap.get? C = none := dead up₂ (dead up₃ hCn)
  have hs₁ : ∀ b o, b ≠ C → H2.get? b = some o → h₁.get? b = some o := fun b o hb e => hsb₁.extBut b o hb (Heap.get?_push_of_some _ e)
  have up : ∀ b o, s₁.heap.get? b = some o → h₁.get? b = some o := fun b o e => hs₁ b o (by rintro rfl; exact nomatch hC1.symm.trans e) (up₃ b o (up₂ b o e))
  have S₂ : St N0 F₁ s₁ F₁ { s₁ with heap := h₁, toks := s₁.toks + ([] : List (Str × Value)).length } := .grow k₁.rm.sub up
  obtain ⟨oi, T, ivs, hoi, hci, hdi, _⟩ := W.obj _ _ hP
  have hitC : it ≠ C := by rintro rfl; exact nomatch hCn.symm.trans (up₃ _ _ hoi)
  have hitD : it ≠ D := by rintro rfl; exact nomatch hDn.symm.trans hoi
  have hP₂ : P 0 h₁ := W.keep _ _ _ hP (fun a o e => up₂ a o (k₁.rm.sub a o e)) (fun a o e => up a o (k₁.rm.sub a o e)) fun o e => hs₁ it o hitC (up₃ _ _ e)
  have loop : codeAny G.M A (.compLoop (.ListComp e' [⟨tg, it₀, ifs, 0⟩] scope p) 0 (.ref it) (.ref D) (compEnvC scope (closL env scope.names []) C env)) (compPost G.M A E use Qp (.ref D) C) { s₁ with heap := h₁, toks := s₁.toks + ([] : List (Str × Value)).length } := by
    refine compLoop_rule (fun m s' => ∃ i F' mC vs n, m + i = ts.length + 1 ∧ i ≤ ts.length ∧ St N0 F s F' s' ∧ (∀ a o, F₁ a = some o → F' a = some o) ∧ F' it = none ∧ F' D = none ∧ F' C = none ∧ P i s'.heap ∧ s'.heap.get? D = some (lobj vs n) ∧ RelL F' ((ts.take i).filterMap f) vs ∧ s'.heap.Ns C mC) ?_ (ts.length + 1)
      ⟨0, F₁, _, [], 0, rfl, Nat.zero_le _, S₁.trans S₂, fun _ _ e => e, k₁.rm.out hitn, k₁.rm.out hD1, k₁.rm.out hC1, hP₂, hs₁ _ _ hDC hD0, rfl, hns₁⟩
    rintro m s' E' ⟨i, F', mC, vs, n, hm, hile, S', upF, hFi, hFD, hFC, hP', hD', rl, hn'⟩
    have k' := k.step S'
    have sub : ∀ {h : Heap}, (∀ a o, F' a = some o → h.get? a = some o) → ∀ a o, F₁ a = some o → h.get? a = some o := fun h a o e => h a o (upF a o e)
    have sIt := S₁.dead hitn
    have sD := S₁.dead hD1
    have sC := S₁.dead hC1
    rcases Nat.lt_or_ge i ts.length with hlt | hge
    · obtain ⟨z, hz⟩ : ∃ z, ts[i]? = some z := ⟨_, List.getElem?_eq_getElem hlt⟩
      refine W.item i s' _ _ (Fv z) (by rw [List.getElem?_map, hz]; rfl) hP' fun v h₂ t₂ hr hP₂ hs₂ => ?_
      refine owned_go (W.obj _ _ hP₂) ?_
      have S₄ := S'.priv (t := t₂) hFi sIt hs₂
      have hn₂ : h₂.Ns C mC := ns_keep hn' fun o e => hs₂ _ _ hitC.symm e
      refine (htg z).assign (cenv := compEnvC scope (closL env scope.names []) C env) k.rm.handled S₄.sub (fun y hy => lookup_relabel_local (O.tgt y hy)) (by show ((relabel scope env).kind == .class || ((relabel scope env).kind == .module && _)) = false; rw [show (relabel scope env).kind = .function from O.kind]; rfl) hn₂ hFC (hr.mono upF) fun h₃ t₃ m₃ hn₃ hlw hw₃ hs₃ => ?_
      have S₅ := S₄.priv (t := t₃) hFC sC hs₃
      have k₅ := comp_env O (k.step S₅) hn₃ hFC hlw hw₃
      have hP₃ : P (i + 1) h₃ := W.keep _ _ _ hP₂ (sub S₄.sub) (sub S₅.sub) fun o e => hs₃ it o hitC e
      have hD₃ : h₃.get? D = some (lobj vs n) := hs₃ D _ hDC (hs₂ _ _ hitD.symm hD')
      obtain ⟨oi₃, _, _, hoi₃, _⟩ := W.obj _ _ hP₃
      obtain ⟨oC₃, hoC₃⟩ := Ns_obj hn₃
      have ht' := ht z (List.mem_of_getElem? hz)
      have etk : ts.take (i + 1) = ts.take i ++ [z] := by obtain ⟨h1, h2⟩ := List.getElem?_eq_some_iff.mp hz; rw [List.take_succ_eq_append_getElem h1, h2]
      have next : ∀ {F₆ : Fz} {s₆ : Shared} {ws : List Value} {n' : Nat}, St N0 F s F₆ s₆ → (∀ a o, F' a = some o → F₆ a = some o) → F₆ it = none → F₆ D = none → F₆ C = none → (∀ b o, b ≠ D → h₃.get? b = some o → ∃ o', s₆.heap.get? b = some o' ∧ KeepO o o') → s₆.heap.get? D = some (lobj ws n') → RelL F₆ ((ts.take (i + 1)).filterMap f) ws →
          ∃ m', m' < m ∧ ∃ i F' mC vs n, m' + i = ts.length + 1 ∧ i ≤ ts.length ∧ St N0 F s F' s₆ ∧ (∀ a o, F₁ a = some o → F' a = some o) ∧ F' it = none ∧ F' D = none ∧ F' C = none ∧ P i s₆.heap ∧ s₆.heap.get? D = some (lobj vs n) ∧ RelL F' ((ts.take i).filterMap f) vs ∧ s₆.heap.Ns C mC := fun S₆ u6 o1 o2 o3 kp hD₆ rl₆ =>
        ⟨m - 1, by (first | lia | omega), i + 1, _, _, _, _, by (first | lia | omega), hlt, S₆, fun a o e => u6 a o (upF a o e), o1, o2, o3, W.keep _ _ _ hP₃ (sub S₅.sub) (fun a o e => S₆.sub a o (u6 a o (upF a o e))) fun o e => (kp it o hitD e).elim fun o' q => q.2.elim (fun h => h ▸ q.1) fun h => h.1.elim fun es h => h.elim fun n h => (by obtain ⟨oi', T', vs', h1, _, h3, _⟩ := W.obj _ _ hP₃; rw [show h₃.get? it = some o from e] at h1; cases h1; rw [h3] at h; cases h), hD₆, rl₆, ns_keepO hn₃ fun o e => kp C o hDC.symm e⟩
      refine ht'.test k₅ (fun F₆ s₆ u S₆ k₆ hu hev => ?_) fun F₆ s₆ S₆ hu => ?_
      · rw [if_pos rfl]
        refine hev.bind k₆ fun w F₇ s₇ S₇ r₇ k₇ => ?_
        have S₆₇ := S₆.trans S₇
        have hD₇ := S₆₇.keep D _ hD₃ id (fun _ _ e => nomatch e)
        have rl₇ := RelL.mono S₆₇.up rl
        refine wpAny_list_append_plain ⟨n, hD₇⟩ (fun h₈ hp hs₈ => ?_) (by rw [List.size_toArray, rl.length]; exact Nat.le_trans (List.length_filterMap_le ..) (Nat.le_trans (List.length_take_le ..) (by (first | lia | omega))))
        obtain ⟨n', hp⟩ := hp
        have hp' : h₈.get? D = some (lobj (vs ++ [w]) n') := by rw [hp]; simp [lobj]
        have hFD₇ := S₆₇.out hFD hD₃
        have eq : (ts.take (i + 1)).filterMap f = (ts.take i).filterMap f ++ [u] := by rw [etk, List.filterMap_append]; simp [hu]
        exact next ((S₅.trans S₆₇).priv (t := s₇.toks) hFD₇ sD hs₈.extBut) S₆₇.up (S₆₇.out hFi hoi₃) hFD₇ (S₆₇.out hFC hoC₃) (fun b o hb e => (S₆₇.keepO b o e id).imp fun o' q => ⟨hs₈.extBut b o' hb q.1, q.2⟩) hp' (by rw [eq]; exact rl₇.append (.one r₇))
      · rw [if_neg Bool.false_ne_true]
        refine next (S₅.trans S₆) S₆.up (S₆.out hFi hoi₃) (S₆.out hFD hD₃) (S₆.out hFC hoC₃) (fun b o _ e => S₆.keepO b o e id) (S₆.keep D _ hD₃ id (fun _ _ e => nomatch e)) ?_
        have eq : (ts.take (i + 1)).filterMap f = (ts.take i).filterMap f := by rw [etk, List.filterMap_append]; simp [hu]
        rw [eq]; exact RelL.mono S₆.up rl
    · cases Nat.le_antisymm hile hge
      refine W.done s' _ _ (by rw [List.length_map]; exact hP') fun h₂ t₂ hs₂ => ?_
      rw [List.take_length] at rl
      exact fin D C F' _ mC vs n (S'.priv (t := t₂) hFi sIt hs₂) sD sC hDC hFD hFC (hs₂ _ _ hitD.symm hD') rl (ns_keep hn' fun o e => hs₂ _ _ hitC.symm e)
  exact codeAny_compStart_list loop (W.self _ _ _ _ hP₂ loop)
theorem ev_compT {T : Type} {Fv : T → V} {Fw : T → List V} {ys : List Str} {tg : PySem.Expr} {ts : List T} (f : T → Option V) (htg : ∀ t, Tg K tg ys (Fv t) (Fw t)) (hit : Ev G K ρ σ it₀ x) (hi : itemsOf x = some (ts.map Fv)) (hl : ts.length ≤ sizeLine) (ht : ∀ t ∈ ts, Turn G (K.comp caps ys scope) (ρc ρ caps (Fw t)) σ ifs e' (f t)) (hchk : compChk K caps ys scope = true) (hsf : ∀ env x, foldedSetIterable it₀ env x = pure x) :
    Ev G K ρ σ (.ListComp e' [⟨tg, it₀, ifs, 0⟩] scope p) (.lst (ts.filterMap f)) := fun A env F s E k => by
  rw [eval_ListComp]
  refine comp_core f htg hchk hit hi hl hsf ht k fun D C F' s' mC vs n S hD hC hDC hFD hFC hl' rl hn => ⟨mC, hn, fun h' hs' => ?_⟩
  have hD' : h'.get? D = some (lobj vs n) := by rw [hs'.2 D hDC]; exact hl'
  have S' := S.priv (t := s'.toks) hFC hC hs'.extBut
  exact ⟨_, S'.freeze hD hD' hFD, D, vs, rfl, ⟨n, Fz.add_self⟩, rl.mono fun a o e => (if_neg (by rintro rfl; exact nomatch hFD.symm.trans e)).trans e⟩
theorem ev_comp {T : Type} {Fv : T → V} {ts : List T} (f : T → Option V) (hit : Ev G K ρ σ it₀ x) (hi : itemsOf x = some (ts.map Fv)) (hl : ts.length ≤ sizeLine) (ht : ∀ t ∈ ts, Turn G (K.comp caps [y] scope) (ρc ρ caps [Fv t]) σ ifs e' (f t)) (hchk : compChk K caps [y] scope = true := by decide +kernel) (hsf : ∀ env x, foldedSetIterable it₀ env x = pure x := by intros; rfl) :
    Ev G K ρ σ (.ListComp e' [⟨.Name y py, it₀, ifs, 0⟩] scope p) (.lst (ts.filterMap f)) := ev_compT f (fun t => .one y py _) hit hi hl ht hchk hsf
theorem swap_no {n : Str} {l : Nat} {gs : List Comprehension} (h : (K.sc.names.lookup n == some .local) = false) (h1 : env.scope = K.sc) : swapsWith (.ListComp e' gs scope p) (some (.Name n q)) l env = pure false := by
  have e : swapsWith (.ListComp e' gs scope p) (some (.Name n q)) l env = pure (env.blockKind == .function && env.kindOf n == some .local && q.line == p.line && !(scope.names.any fun (m, k) => m == n && (k == .local || k == .cell))) := rfl
  rw [← h1] at h
  have h' : (env.kindOf n == some .local) = false := h
  rw [e, h', Bool.and_false]; rfl
def swapChk (K : Sx) (n : Str) (l l' : Nat) (scope : Scope) : Bool := (K.sc.names.lookup n == some .local) && l == l' && !(scope.names.any fun (m, k) => m == n && (k == .local || k == .cell))
theorem swap_yes {n : Str} {l : Nat} {gs : List Comprehension} (h : swapChk K n q.line p.line scope = true) (h1 : env.scope = K.sc) (h2 : env.scope.kind = .function) : swapsWith (.ListComp e' gs scope p) (some (.Name n q)) l env = pure true := by
  unfold swapChk at h
  rw [← h1] at h
  have e : swapsWith (.ListComp e' gs scope p) (some (.Name n q)) l env = pure (env.blockKind == .function && env.kindOf n == some .local && q.line == p.line && !(scope.names.any fun (m, k) => m == n && (k == .local || k == .cell))) := rfl
  rw [e]
  have h3 : (env.blockKind == .function) = true := by unfold Env.blockKind; rw [h2]; rfl
  rw [h3]
  exact congrArg pure h
theorem rng_items (m : Int) : itemsOf (.rng 0 m) = some ((List.range m.toNat).map fun (i : Nat) => V.int (i : Int)) := by
  show some _ = _
  congr 1
  rw [Int.sub_zero]
  refine List.map_congr_left fun i _ => ?_
  rw [Int.zero_add]
theorem ev_comp_rng {m : Int} (f : Nat → V) (hit : Ev G K ρ σ it₀ (.rng 0 m)) (hl : m.toNat ≤ sizeLine) (ht : ∀ i : Nat, i < m.toNat → Ev G (K.comp caps [y] scope) (ρc ρ caps [.int i]) σ e' (f i)) (hchk : compChk K caps [y] scope = true := by decide +kernel) (hsf : ∀ env x, foldedSetIterable it₀ env x = pure x := by intros; rfl) :
    Ev G K ρ σ (.ListComp e' [⟨.Name y py, it₀, [], 0⟩] scope p) (.lst ((List.range m.toNat).map f)) := by
  have := ev_comp (py := py) (p := p) (ts := List.range m.toNat) (fun i => some (f i)) hit (rng_items m) (by rw [List.length_range]; exact hl) (fun i hi => turn_all (ht i (List.mem_range.mp hi))) hchk hsf
  rw [List.filterMap_eq_map'] at this
  exact this
theorem ws_asg_comp (i : Nat) {n : Str} {Q : KS} {ss : List Stmt} {p' : Pos} {T : Type} {Fv : T → V} {ts : List T} (f : T → Option V)  (hit : Ev G K ρ σ it₀ x) (hi : itemsOf x = some (ts.map Fv)) (hl : ts.length ≤ sizeLine) (ht : ∀ t ∈ ts, Turn G (K.comp caps [y] scope) (ρc ρ caps [Fv t]) σ ifs e' (f t)) (h : WS G K ss (ρ.set i (.lst (ts.filterMap f))) σ Q) (hx : nameOK K i n = true := by decide +kernel) (hchk : compChk K caps [y] scope = true := by decide +kernel) (hsw : swapChk K n q.line p.line scope = true := by decide +kernel) (hsf : ∀ env x, foldedSetIterable it₀ env x = pure x := by intros; rfl) : WS G K (.Assign [.Name n q] (.ListComp e' [⟨.Name y py, it₀, ifs, 0⟩] scope p) p' :: ss) ρ σ Q :=
  ws_cons fun A env F s E k => by
    rw [exec_Assign_Name_used _ _ _ _ (swap_yes hsw k.e.sc k.e.kind)]
    refine wpAny_bind (wpAny_standAt (wpAny_bind ?_))
    show wpAny _ A (do let _ ← comprehension (.ListComp e' [⟨.Name y py, it₀, ifs, 0⟩] scope p) scope env _ (newList []) false (eval it₀ env) (some (assign (.Name n q) env))) _ _ s
    refine wpAny_bind (wpAny_mono (comp_core (Qp := fun _ s' => PS G K A env σ F s (Kc G K ss Q) .next s') f (fun t => .one y py _) hchk hit hi hl hsf ht k.e fun D C F' s' mC vs nn S hD hC hDC hFD hFC hl' rl hn => ?_) (fun _ s' hq => wpAny_pure (wpAny_pure hq)) fun _ _ e => e)
    have S₂ := S.freeze hD hl' hFD
    have hFC₂ : F'.add D (lobj vs nn) C = none := (if_neg hDC.symm).trans hFC
    have k₂ := k.step S₂
    have hnl : ∀ b o, s.heap.get? b = some o → b ≠ C := fun b o e => by rintro rfl; exact nomatch hC.symm.trans e
    have hCown : ¬ Own env C := by
      rintro (e | ⟨z, hz⟩)
      · obtain ⟨mm, hm, _⟩ := k.e.loc.vars
        obtain ⟨o, ho⟩ := Ns_obj hm
        exact hnl _ _ ho e.symm
      · obtain ⟨⟨ov, oc, h1, _⟩, _⟩ := k.own z C hz
        exact hnl _ _ h1 rfl
    show wpAny _ A (assign (.Name n q) env (.ref D)) _ _ s'
    refine wpAny_assign_Name (store_ok (x := .lst (ts.filterMap f)) k₂ hx ⟨D, vs, rfl, ⟨nn, Fz.add_self⟩, rl.mono fun a o e => (if_neg (by rintro rfl; exact nomatch hFD.symm.trans e)).trans e⟩ fun h' t k₃ L₃ hk₃ => ⟨mC, ns_keep hn fun o e => hk₃ C o hCown e, fun h'' hs'' => ?_⟩)
    refine ⟨.next, _, σ, _, trivial, k₃.other (t := t) hFC₂ hs''.extBut hCown (k.e.rm.nofr fun o es n e => nomatch hC.symm.trans e) fun a zs q => (k₃.e.own a zs q).imp id fun h2 => h2.imp fun vs h2 => h2.imp fun n h2 => ⟨hs''.extBut _ _ ?_ h2.1, h2.2⟩, (S₂.lk.trans L₃).priv hFC₂ hC hs''.extBut, h⟩
    rintro rfl
    exact (k.e.own _ zs q).2.elim fun _ q => q.elim fun _ q => nomatch hC.symm.trans q.1
end
end Mine

set_option autoImplicit false
set_option linter.all false
set_option genSizeOf false
set_option genInjectivity false
set_option maxRecDepth 100000
namespace Mine
open PySem PySem.W PyProof.Rows
/-! ## sorted on rows -/
theorem ev_sorted {G : Gl} {K : Sx} {ρ : List V} {σ : Ow} {e : PySem.Expr} {p q : Pos} {rs : List Row} {z : V} (h1 : Ev G K ρ σ e (.lst (rs.map RowV))) (hl : rs.length ≤ 10000) (h : ∀ rs' : List Row, rs'.Perm rs → rs'.Pairwise (fun a b => rowLt b a = false) → z = .lst (rs'.map RowV)) (hs : notStar e = true := by rfl) (hg : globOK K "sorted" = true := by decide +kernel) : Ev G K ρ σ (.Call (.Name "sorted" q) [e] [] p) z :=
  ev_cb 7 rfl hg (by rw [List.all_cons, hs]; rfl) (evl_cons h1 evl_nil) fun A env F s E vs k r => by
    obtain ⟨v, rfl, r₁⟩ := rel1 r
    obtain ⟨a, us, rfl, hu, hn, rl⟩ := lst_list k.rm r₁
    refine sorted_rows hu k.rm.sub rl hl fun out rs' a1 a2 a3 => ?_
    cases h rs' a2 a3
    obtain ⟨e, he⟩ := sortedAll_at s.heap us out.toArray
    have hk : ∀ b o, s.heap.get? b = some o → (sortedAll s.heap us out.toArray).get? b = some o := fun _ _ => sortedAll_old
    have hn : s.heap.get? (s.heap.objs.size + 1) = none := by
      cases q : s.heap.get? (s.heap.objs.size + 1) with
      | none => rfl
      | some o => exact absurd (Heap.lt_size q) (Nat.not_lt.mpr (Nat.le_succ _))
    have S : St N0 F s F { s with heap := sortedAll s.heap us out.toArray, toks := s.toks } := .grow k.rm.sub hk
    exact ⟨_, S.freeze hn he (k.rm.out hn), _, out, rfl, ⟨e, Fz.add_self⟩, a1.mono fun a o e => (if_neg (by rintro rfl; exact nomatch hn.symm.trans (k.rm.sub _ _ e))).trans e⟩

/-! ## the head: functions, globals, the call of the law itself -/
theorem lookup_zip : ∀ {ns : List Str} {vs : List Value}, ns.Nodup → vs.length = ns.length → ns.filterMap (fun n => ((ns.zip vs).lookup n).map (n, ·)) = ns.zip vs := by
  intro ns vs hn hl
  have key : ∀ (ps : List (Str × Value)) (l : List Str) (w : List Value), l.Nodup → w.length = l.length → (∀ n ∈ l, ps.lookup n = none) → l.filterMap (fun n => ((ps ++ l.zip w).lookup n).map (n, ·)) = l.zip w := by
    intro ps l
    induction l generalizing ps with
    | nil => intro w _ _ _; simp
    | cons a l ih =>
      intro w hn hw hp
      cases w with
      | nil => simp at hw
      | cons v w =>
        have ha : ps.lookup a = none := hp a (List.mem_cons_self ..)
        have e1 : (ps ++ (a :: l).zip (v :: w)).lookup a = some v := by
          rw [List.zip_cons_cons, List.lookup_append, ha]; simp
        rw [List.filterMap_cons, e1]
        have e2 : ps ++ (a :: l).zip (v :: w) = (ps ++ [(a, v)]) ++ l.zip w := by simp
        simp only [Option.map_some]
        rw [e2, ih (ps ++ [(a, v)]) w (List.nodup_cons.mp hn).2 (by simpa using hw) (fun n hm => ?_)]
        · simp
        · rw [List.lookup_append, hp n (List.mem_cons_of_mem _ hm)]
          have hne : n ≠ a := by rintro rfl; exact (List.nodup_cons.mp hn).1 hm
          have : (n == a) = false := by simpa using hne
          simp [List.lookup_cons, this]
  simpa using key [] ns vs hn hl (by simp)
theorem lookup_zip_none : ∀ {ns : List Str} {vs : List Value} {n : Str}, vs.length = ns.length → n ∈ ns → ((ns.zip vs).lookup n).isNone = false
  | a :: l, v :: w, n, hl, hm => by
    rw [List.zip_cons_cons, List.lookup_cons]
    by_cases e : n = a
    · subst e; simp
    · have : (n == a) = false := by simpa using e
      rw [this]
      exact lookup_zip_none (by simpa using hl) (by rcases List.mem_cons.mp hm with h | h; exact absurd h e; exact h)
  | _ :: _, [], _, hl, _ => by simp at hl
theorem bind_simple {fd : FuncData} {ns : List Str} {vs : List Value} (h1 : fd.params.posonlyargs = []) (h2 : fd.params.args.map (·.arg) = ns) (h3 : fd.params.kwonlyargs = []) (h4 : fd.params.vararg = none) (h5 : fd.params.kwarg = none)
    (h6 : fd.defaults = .none) (hn : ns.Nodup) (hl : vs.length = ns.length) : bindArgs fd ⟨vs, []⟩ = pure (ns.zip vs) := by
  unfold bindArgs
  have hm : (ns.filter fun n => ((ns.zip vs).lookup n).isNone) = [] := by
    rw [List.filter_eq_nil_iff]; intro n hn'; rw [lookup_zip_none hl hn']; decide
  have hs : seqItems? fd.defaults = pure none := by rw [h6]; rfl
  simp only [h1, h2, h3, h4, h5, hs, List.map_nil, List.nil_append, List.forIn_nil, pure_bind, Option.getD_none, List.append_nil, hl, Nat.lt_irrefl, gt_iff_lt, decide_false, Bool.false_and, Bool.false_eq_true, if_false]
  simp [hm, lookup_zip hn hl]
/-- a function of the text: its names, the number of its parameters -/
structure Fn where
  ns : List Str
  np : Nat
def recOf (p : Program) (f : Str) : Option DefRec := (recsOf p).find? fun d => d.name == f
def bodyOf (p : Program) (f : Str) : List Stmt := match recOf p f with | some d => d.body | none => []
def sxOf (p : Program) (f : Str) (F : Fn) : Sx := match recOf p f with | some d => ⟨d.scope, F.ns⟩ | none => ⟨default, []⟩
def recChk (p : Program) (f : Str) (F : Fn) : Bool := match recOf p f with
  | some d => d.params.posonlyargs.isEmpty && (d.params.args.map (·.arg) == F.ns.take F.np) && d.params.kwonlyargs.isEmpty && d.params.vararg.isNone && d.params.kwarg.isNone && fnChk ⟨d.scope, F.ns⟩ F.np
  | none => false
section
variable {p : Program} {loose : List Str} {mean : ExcName → Option Value} {mg mb : Str → Option Value} {h : Heap} {prog : Program} {w : World} {dd : Nat}
theorem top_fn (T : Top p loose mean mg mb h) {f : Str} {F : Fn} (hk : recChk p f F = true) : FnAt h mg f (sxOf p f F) F.np (bodyOf p f) := by
  unfold sxOf bodyOf
  unfold recChk at hk
  split at hk
  · rename_i d hd
    simp only [Bool.and_eq_true, List.isEmpty_iff, Option.isNone_iff_eq_none, beq_iff_eq] at hk
    obtain ⟨⟨⟨⟨⟨k1, k2⟩, k3⟩, k4⟩, k5⟩, k6⟩ := hk
    have hn : d.name = f := eq_of_beq (List.find?_some (p := fun d : DefRec => d.name == f) hd)
    obtain ⟨a, o, pm, code, doc, h1, h2, h3, h4⟩ := T.fn d (List.mem_of_find?_eq_some hd)
    rw [hn] at h1
    have e : fnA mg f = a := by unfold fnA; simp only [h1]
    have k7 := k6
    unfold fnChk at k7
    simp only [Bool.and_eq_true, decide_eq_true_eq] at k7
    refine ⟨⟨o, _, ?_, ?_, h3, h4, rfl, rfl, rfl, rfl, fun vs hl => ?_, rfl⟩, k6⟩
    · rw [e]; exact h1
    · rw [e]; exact h2
    · exact bind_simple k1 k2 k3 k4 k5 rfl (k7.1.2.sublist (List.take_sublist ..)) (by rw [List.length_take, Nat.min_eq_left k7.2]; exact hl)
  · cases hk
def freeChk (p : Program) (loose : List Str) (x : Str) : Bool :=
  !(startupNames.contains x) && !(loose.contains x) && !(((recsOf p).map (·.name)).contains x) && !(((litsOf p).map (·.1)).contains x) && !(((clssOf p loose).map (·.name)).contains x) && !(x == ("__name__" : Str))
theorem top_builtin (T : Top p loose mean mg mb h) {x : Str} (hk : freeChk p loose x = true) : mg x = none ∧ mb x = bootBuiltins x := by
  unfold freeChk at hk
  simp only [Bool.and_eq_true, Bool.not_eq_true', beq_eq_false_iff_ne, ne_eq] at hk
  obtain ⟨⟨⟨⟨⟨k1, k2⟩, k3⟩, k4⟩, k5⟩, k6⟩ := hk
  have f : ∀ {l : List Str}, l.contains x = false → x ∉ l := fun hc hm => by rw [List.contains_iff_mem.mpr hm] at hc; cases hc
  exact ⟨T.free x (f k1) (f k2) (f k3) (f k4) (f k5), T.builtins x k6⟩
theorem blt_boot : ∀ y ∈ blts, bootBuiltins y.1 = some y.2 := by
  intro y hy
  simp only [blts, List.mem_cons, List.not_mem_nil, or_false] at hy
  rcases hy with rfl | rfl | rfl | rfl | rfl | rfl | rfl | rfl | rfl | rfl | rfl | rfl | rfl <;> decide +kernel
theorem top_gl (T : Top p loose mean mg mb h) (hb : (blts.all fun y => freeChk p loose y.1) = true) : Gl.Ok ⟨prog, w, h, mg, mb, dd⟩ :=
  ⟨T.g, T.b, T.nolimit, fun i x v hi => have hm := List.mem_of_getElem? hi; let ⟨a, b⟩ := top_builtin T (List.all_eq_true.mp hb _ hm); ⟨a, b.trans (blt_boot _ hm)⟩⟩
end
theorem law_post (l : OpenLaw) (args : List WData) : l.row.claim.post args (.bool true) args = true := by
  show (WShape.has [] (.bool true) .bool && WTm.holds [] (.eq .res (.lit (.bool true))) { args := args, res := some (.bool true), after := args }) = true
  simp [WShape.has, WTm.holds, WTm.value, same, WShape.arms]
theorem head_ok {G : Gl} (GO : G.Ok) {s : Shared} {fa : Addr} (hf : G.fn "law" = fa) (hs : s.heap = G.B) (hd : G.d = 680) (hg : s.gens = #[]) {a : Addr} {vs : List Value} {zs : List Int} (hL : s.heap.IsList a vs.toArray) (hI : IntsAre vs zs)
    {c : ClaimW} {cl : Str → Option Addr} {mean : ExcName → Option Value} {args : List WData} (hn : ∀ cls, c.raises args cls = false) (hp : c.post args (.bool true) args = true)
    {K : Sx} {sts : List Stmt} (FA : FnAt G.B G.mg "law" K 1 sts) (h : WS G.dn K sts (.scr (zs.map .int) :: List.replicate (K.ns.length - 1) .unb) σ0 (retQ (.bool true))) :
    codeAny G.M callerA (.call (.ref fa) ⟨[.ref a], []⟩) (GoodWG c cl mean args s) s := by
  subst hf
  have hr : ∀ {F : Fz} {vs : List Value} {zs : List Int}, IntsAre vs zs → RelL F (zs.map .int) vs := by
    intro F vs zs hI
    induction hI with
    | nil => rfl
    | cons _ _ _ ih => exact ⟨_, _, rfl, ⟨_, rfl⟩, ih⟩
  have k : Rm G callerA s.heap.get? s := ⟨GO, fun a o e => hs ▸ e, fun _ _ e => e, by rw [hd]; show 1 + claimMargin + 680 ≤ 1000; decide, by rw [hd]; decide, rfl, [], rfl, fun _ m => nomatch m⟩
  refine enter_ok FA.o (xs := [.scr (zs.map .int)]) (F := s.heap.get?) rfl (by rw [hd]; decide) h k ⟨_, _, rfl, ⟨a, vs, rfl, hL, hr hI⟩, rfl⟩ (fun _ _ q => nomatch q) fun fl v σ' F' s' hf own S d q => ?_
  have hv : v = .bool true := by
    obtain ⟨ρ, q⟩ := q
    rcases hf with hf | ⟨rfl, rfl⟩
    · cases fl with
      | next => exact hf.elim
      | ret x =>
        generalize hz : V.bool true = z at q
        cases (show Res σ' x z from q) with
        | id => subst hz; exact hf
        | own => cases hz
        | tup => cases hz
    · exact nomatch (show V.bool true = .none from q)
  subst hv
  refine GoodW.toG ⟨.inl ⟨_, _, [], rfl, hn, .bool true, hp, unshared_nil⟩, fun b o e => ?_, ?_, ?_⟩
  · exact S.sub b o (S.up b o e)
  · rw [S.rest]
  · rw [S.rest]; exact hg
end Mine

set_option autoImplicit false
set_option linter.all false
set_option genSizeOf false
set_option genInjectivity false
set_option maxRecDepth 100000
namespace Mine
open PySem PyProof.Rows
section
variable {G : Gl} {K : Sx} {A : Around} {env : Env} {ρ : List V} {σ : Ow} {F F₁ : Fz} {s s₁ : Shared} {E : Value → Shared → Prop} {Q : KS} {e l r : PySem.Expr} {es : List PySem.Expr} {ss : List Stmt} {x y z : V} {p q q' pc : Pos} {b : Bool} {a a' : List Nat} {xs ys zs : List V} {f : Str}
/-! ## texts in order; a text in a list of texts -/
theorem cm_lts : Cm G .Lt (.str a) (.str a') (decide (a < a')) := by rintro A F s E _ _ R _ ⟨_, rfl⟩ ⟨_, rfl⟩ h; exact P.lt_str h
theorem cm_gts : Cm G .Gt (.str a) (.str a') (decide (a' < a)) := by rintro A F s E _ _ R _ ⟨_, rfl⟩ ⟨_, rfl⟩ h; exact P.gt_str h
theorem any_str (k : List Nat) : ∀ {ts : List (List Nat)} {vs : List Value}, RelL F (ts.map .str) vs → (∀ (t : Tok), ∀ v ∈ vs, MeetsSeq.EqGives v (.str ⟨k.toArray⟩ t) (isStrOf ⟨k.toArray⟩ v)) ∧ vs.any (isStrOf ⟨k.toArray⟩) = ts.contains k
  | [], _, rfl => ⟨fun _ _ h => (nomatch h), rfl⟩
  | t :: ts, _, ⟨_, ws, rfl, ⟨u, rfl⟩, r⟩ => by
    obtain ⟨h1, h2⟩ := any_str k r
    have e : isStrOf ⟨k.toArray⟩ (.str ⟨t.toArray⟩ u) = ((⟨t.toArray⟩ : Str) == ⟨k.toArray⟩) := rfl
    refine ⟨fun t' v hv => ?_, ?_⟩
    · rcases List.mem_cons.mp hv with rfl | hv
      · exact eqGives_str _ _ _ _
      · exact h1 t' v hv
    · rw [List.any_cons, h2, e, str_eq_iff, List.contains_cons]
      congr 1
      rw [Bool.eq_iff_iff, decide_eq_true_eq, beq_iff_eq]; exact ⟨Eq.symm, Eq.symm⟩
theorem tr_notin {c : Addr} {ts : List (List Nat)} (h1 : Ev G K ρ σ l (.str a)) (h2 : Ev G K ρ σ r (.ref c)) (hc : σ c = some (ts.map .str)) (hm : behindInMarks .NotIn r = false := by rfl) : Tr G K ρ σ (.Compare l [.NotIn] [r] p) (!ts.contains a) :=
  fun A env F s E k => wpAny_isTrue_Compare1 (h1.bind k fun v F₁ s₁ S₁ r₁ k₁ => h2.bind k₁ fun w F₂ s₂ S₂ r₂ k₂ => by
    obtain ⟨t, rfl⟩ := r₁
    cases show w = .ref c from r₂
    obtain ⟨vs, hl, rl⟩ := own_list k₂ hc
    obtain ⟨g1, g2⟩ := any_str a rl
    exact PySem.SeqAt.notIn_listAt (isStrOf ⟨a.toArray⟩) hl (fun y hy => (g1 t y (by simpa using hy)).at _ _) (by rw [List.any_toArray, g2]; exact wpAny_truthy_bool ⟨F₂, S₁.trans S₂, rfl⟩)) hm
/-! ## a value let go -/
theorem ws_expr (h1 : Ev G K ρ σ e x) (h : WS G K ss ρ σ Q) (hs : ∀ env, swapsWith e none p.line env = pure false := by intros; rfl) : WS G K (.Expr e p :: ss) ρ σ Q :=
  ws_cons fun A env F s E k => wpAny_Expr_any (h1.bind k.e fun v F₁ s₁ S r k₁ => ⟨.next, ρ, σ, F₁, trivial, k.step S, S.lk, h⟩) (by unfold interactive; rw [k.e.kind]; rfl) (hs env)
/-! ## a list of one's own is handed to a function that tells a truth -/
theorem ev_callo {c : Addr} (h : Pure G f (.lst ys :: xs) (.bool b)) (h1 : Ev G K ρ σ e (.ref c)) (hc : σ c = some ys) (ha : EvL G K ρ σ es xs) (hs : (e :: es).all notStar = true := by rfl) (hg : globOK K f = true := by decide +kernel) : Ev G K ρ σ (.Call (.Name f q) (e :: es) [] p) (.bool b) := fun A env F s E k => by
  obtain ⟨o, fd, hf, ho, hfd⟩ := h.is
  refine wpAny_Call_NameR (name_global k (.inl hf) hg ?_)
  rw [back_star p env hs]
  refine Calls.callWith_function (evalArgs_list (all_false (e :: es) env) ((evl_cons h1 ha).bind k fun vs F₁ s₁ S₁ r₁ k₁ => ⟨⟨k₁.rm.in _ _ ho, hfd⟩, ?_⟩))
  obtain ⟨v, ws, rfl, rv, rl⟩ := r₁
  cases show v = .ref c from rv
  obtain ⟨hF, us, n, hu, ru⟩ := k₁.own c ys hc
  have up : ∀ a o, F₁ a = some o → F₁.add c (lobj us n) a = some o := fun a o e => (if_neg (by rintro rfl; exact nomatch hF.symm.trans e)).trans e
  have R₂ : Rm G A (F₁.add c (lobj us n)) s₁ := ⟨k₁.rm.go, fun a o e => up a o (k₁.rm.base a o e), fun a o e => by
    by_cases h : a = c
    · subst h; cases Fz.add_self.symm.trans e; exact hu
    · exact k₁.rm.sub a o ((if_neg h).symm.trans e), k₁.rm.depth, k₁.rm.units, k₁.rm.handled, k₁.rm.frs fun L _ hL t => ⟨(if_neg (by rintro rfl; obtain ⟨o, es, m, e, hd⟩ := t; cases hu.symm.trans e; cases hd)).trans hL, t⟩⟩
  refine wpAny_mono (h.run A _ s₁ E _ R₂ ⟨_, ws, rfl, ⟨c, us, rfl, ⟨n, Fz.add_self⟩, ru.mono up⟩, rl.mono up⟩) (fun v s₂ q => q.casesOn fun F₂ S₂ r₂ => ⟨F₁, S₁.trans ⟨fun _ _ e => e, fun a o e => S₂.sub a o (S₂.up a o (up a o e)), S₂.keepO, S₂.live, fun _ _ e => .inl e, S₂.rest⟩, r₂⟩) fun _ _ e => e
/-! ## a function that gives back a new list -/
inductive PN (F : Fz) (s : Shared) (zs : List V) (v : Value) (s' : Shared) : Prop
  | mk (F' : Fz) (a : Addr) (vs : List Value) (n : Nat) (S : St N0 F s F' s') (hv : v = .ref a) (hn : s.heap.get? a = none) (hF : F' a = none) (ho : s'.heap.get? a = some (lobj vs n)) (r : RelL F' zs vs)
structure New (G : Gl) (f : Str) (xs zs : List V) : Prop where
  is : ∃ o fd, G.mg f = some (.ref (G.fn f)) ∧ G.B.get? (G.fn f) = some o ∧ o.data = .func fd
  run : ∀ A F s E vs, Rm G A F s → RelL F xs vs → wpAny G.M A (call (.ref (G.fn f)) vs) (PN F s zs) E s
theorem New.pure (h : New G f xs zs) : Pure G f xs (.lst zs) :=
  ⟨h.is, fun A F s E vs k r => wpAny_mono (h.run A F s E vs k r) (fun v s' q => q.casesOn fun F' a us n S hv hn hF ho ru => ⟨_, S.freeze hn ho hF, a, us, hv, ⟨n, Fz.add_self⟩, ru.mono fun b o e => (if_neg (by rintro rfl; exact nomatch hF.symm.trans e)).trans e⟩) fun _ _ e => e⟩
def retN (zs : List V) : KS := fun fl _ σ => match fl with | .ret x => ∃ a, x = .ref a ∧ σ a = some zs | .next => False
theorem new_of {np : Nat} {sts : List Stmt} (FA : FnAt G.B G.mg f K np sts) (hlen : xs.length = np) (hd : 0 < G.d) (h : WS G.dn K sts (xs ++ List.replicate (K.ns.length - np) .unb) σ0 (retN zs)) : New G f xs zs :=
  ⟨FA.obj.imp fun _ q => q.imp fun _ q => ⟨q.1, q.2.1, q.2.2.1⟩, fun A F s E vs k r => wpAny_call (enter_ok FA.o hlen hd h k r (fun _ _ q => nomatch q) fun fl v σ' F' s' hf own S d q => by
    obtain ⟨ρ, q⟩ := q
    rcases hf with hf | ⟨rfl, rfl⟩
    · cases fl with
      | next => exact hf.elim
      | ret x =>
        obtain ⟨a, rfl, ha⟩ := q
        obtain ⟨hF, us, n, hu, ru⟩ := own a zs ha
        exact ⟨F', a, us, n, S.weaken fun b o _ q => q.elim fun _ q => (nomatch q), hf, (d a zs ha).elim (fun q => q.elim fun _ q => (nomatch q)) id, hF, hu, ru⟩
    · exact q.elim)⟩
/-- a list that has come is one's own -/
theorem FOk.owned {v : Value} (k : FOk G K A env ρ σ F s) (h : PN F s zs v s₁) : ∃ a F₁, v = .ref a ∧ σ a = none ∧ FOk G K A env ρ (σ.set a zs) F₁ s₁ ∧ Lk env σ F s (σ.set a zs) F₁ s₁ :=
  h.casesOn fun F₁ a us n S hv hn hF ho ru => by
    have k' := k.step S
    have hσ : σ a = none := by
      cases q : σ a with
      | none => rfl
      | some xs => exact (k.e.own _ xs q).2.elim fun _ q => q.elim fun _ q => nomatch hn.symm.trans q.1
    refine ⟨a, F₁, hv, hσ, ⟨⟨k'.e.rm, k'.e.sc, k'.e.kind, k'.e.globals, k'.e.builtins, fun b xs q => ?_, k'.e.loc⟩, k'.top, k'.apart, k'.nodup, k'.own⟩, S.any, fun b xs q => ?_⟩
    · by_cases h : b = a
      · subst h; cases (Ow.set_self ..).symm.trans q; exact ⟨hF, us, n, ho, ru⟩
      · exact k'.e.own b xs ((Ow.set_ne _ _ h).symm.trans q)
    · by_cases h : b = a
      · exact .inr (h ▸ hn)
      · exact .inl ⟨xs, (Ow.set_ne _ _ h).symm.trans q⟩
theorem PN.from {v : Value} {s' : Shared} (S : St N0 F s F₁ s₁) (h : PN F₁ s₁ zs v s') : PN F s zs v s' := h.casesOn fun F' a vs n S' hv hn hF ho r => ⟨F', a, vs, n, S.trans S', hv, S.dead hn, hF, ho, r⟩
theorem ws_asgN {n : Str} (i : Nat) (h : New G f xs zs) (ha : EvL G K ρ σ es xs) (h2 : ∀ a, σ a = none → WS G K ss (ρ.set i (.ref a)) (σ.set a zs) Q) (hs : es.all notStar = true := by rfl) (hg : globOK K f = true := by decide +kernel) (hx : nameOK K i n = true := by decide +kernel) :
    WS G K (.Assign [.Name n q] (.Call (.Name f q') es [] pc) p :: ss) ρ σ Q :=
  ws_cons fun A env F s E k => wpAny_Assign_Name (by
    obtain ⟨o, fd, hf, ho, hfd⟩ := h.is
    refine wpAny_Call_NameR (name_global k.e (.inl hf) hg ?_)
    rw [back_star pc env hs]
    refine Calls.callWith_function (evalArgs_list (all_false es env) (ha.bind k.e fun vs F₁ s₁ S₁ r₁ k₁ => ⟨⟨k₁.rm.in _ _ ho, hfd⟩, wpAny_mono (h.run A F₁ s₁ E vs k₁.rm r₁) (fun v s₂ q => ?_) fun _ _ e => e⟩))
    obtain ⟨a, F₂, rfl, hσ, k₂, L₂⟩ := k.owned (PN.from S₁ q)
    exact store_ok (x := .ref a) k₂ hx rfl fun h' t k₃ L₃ _ => ⟨.next, _, _, F₂, trivial, k₃, L₂.trans L₃, h2 a hσ⟩) rfl
theorem ws_ret_comp {caps : List Nat} {n : Str} {py : Pos} {it₀ e' : PySem.Expr} {ifs : List PySem.Expr} {scope : Scope} {T : Type} {Fv : T → V} {ts : List T} (g : T → Option V) (hit : Ev G K ρ σ it₀ x) (hi : itemsOf x = some (ts.map Fv)) (hl : ts.length ≤ sizeLine) (ht : ∀ t ∈ ts, Turn G (K.comp caps [n] scope) (ρc ρ caps [Fv t]) σ ifs e' (g t)) (h : ∀ a, σ a = none → Q (.ret (.ref a)) ρ (σ.set a (ts.filterMap g))) (hchk : compChk K caps [n] scope = true := by decide +kernel) (hsf : ∀ env x, foldedSetIterable it₀ env x = pure x := by intros; rfl) :
    WS G K (.Return (some (.ListComp e' [⟨.Name n py, it₀, ifs, 0⟩] scope p)) q :: ss) ρ σ Q :=
  ws_cons fun A env F s E k => wpAny_Return_some (by
    rw [eval_ListComp]
    refine comp_core g (fun t => .one n py _) hchk hit hi hl hsf ht k.e fun D C F' s' mC vs n S hD hC hDC hFD hFC hl' rl hn => ⟨mC, hn, fun h' hs' => ?_⟩
    have hD' : h'.get? D = some (lobj vs n) := by rw [hs'.2 D hDC]; exact hl'
    obtain ⟨a, F₂, e, hσ, k₂, L₂⟩ := k.owned (v := .ref D) (⟨F', D, vs, n, S.priv (t := s'.toks) hFC hC hs'.extBut, rfl, hD, hFD, hD', rl⟩ : PN F s _ _ _)
    cases e
    exact ⟨.ret (.ref D), ρ, _, F₂, rfl, k₂, L₂, h D hσ⟩)
end
end Mine

set_option autoImplicit false
set_option linter.all false
set_option genSizeOf false
set_option genInjectivity false
set_option maxRecDepth 100000
namespace Mine
open PySem PyProof.Rows PySem.W

/-! ## an exception on its way -/
/-- B holds what is frozen, and of what stood at s all but the frames' dicts -/
def Cov (F : Fz) (s : Shared) (B h : Heap) : Prop := (∀ a o, F a = some o → B.get? a = some o) ∧ ∀ b o, s.heap.get? b = some o → ∃ o', h.get? b = some o' ∧ (B.get? b = some o' ∨ ∃ es n, o'.data = .dict es n)
section
variable {D : Addr → Prop} {F F₁ F' : Fz} {s s₁ s' : Shared} {B h : Heap}
theorem Cov.from (c : Cov F' s₁ B h) (S : St D F s F₁ s₁) : Cov F' s B h := ⟨c.1, fun b o e => (S.live b o e).elim fun o' q => c.2 b o' q.1⟩
theorem fly_step (S : St D F s F' s') (c : Cov F' s B s'.heap) (st : B.StaysIn h) (u : s'.heap.UpToSlots h) : St D F s F' { s' with heap := h } ∧ Cov F' s B h := by
  have key : ∀ b o o', s.heap.get? b = some o → s'.heap.get? b = some o' → (h.get? b = some o' ∧ B.get? b = some o') ∨ ∃ sl, h.get? b = some { o' with slots := sl } ∧ ∃ es n, o'.data = .dict es n := fun b o o' e e' => by
    obtain ⟨o'', h1, h2⟩ := c.2 b o e
    cases e'.symm.trans h1
    rcases h2 with h2 | ⟨es, n, hd⟩
    · exact .inl ⟨st b _ h2, h2⟩
    · exact .inr ((u b _ e' fun vs q => nomatch hd.symm.trans q).imp fun sl q => ⟨q, es, n, hd⟩)
  refine ⟨⟨S.up, fun a o e => st a o (c.1 a o e), fun b o e d => ?_, fun b o e => ?_, S.new, by rw [S.rest]⟩, c.1, fun b o e => ?_⟩
  · obtain ⟨o', h1, h2⟩ := S.keepO b o e d
    rcases key b o o' e h1 with q | ⟨sl, q, hd⟩
    · exact ⟨o', q.1, h2⟩
    · exact ⟨_, q, h2.trans (.inr ⟨hd, sl, rfl⟩)⟩
  · obtain ⟨o', h1, h2⟩ := S.live b o e
    rcases key b o o' e h1 with q | ⟨sl, q, hd⟩
    · exact ⟨o', q.1, h2⟩
    · exact ⟨_, q, h2.trans fun _ _ e => ⟨_, _, e⟩⟩
  · obtain ⟨o', h1, _⟩ := c.2 b o e
    rcases key b o o' e h1 with q | ⟨sl, q, es, n, hd⟩
    · exact ⟨o', q.1, .inl q.2⟩
    · exact ⟨_, q, .inr ⟨es, n, hd⟩⟩
end
/-- in a frame: made, noted, or come from a frame below -/
def ExcAt (B : Heap) (l : List Env) (e : Addr) (cls : Value) (L : Addr) (h : Heap) : Prop := B.StaysIn h ∧ B.get? e = none ∧ h.FunFrames B l ∧
  ((∃ oe vs a0, h.get? e = some oe ∧ oe.cls = cls ∧ oe.data = .fields vs ∧ vs[0]? = some a0 ∧ vs[1]? = some .none) ∨ ∃ a0 fl, h.TracedAtW B e cls a0 fl ∧ (fl = .none ∨ fl = rawInt L))
inductive PX (G : Gl) (K : Sx) (A : Around) (env : Env) (σ : Ow) (F : Fz) (s : Shared) (C : Addr) (v : Value) (s' : Shared) : Prop
  | mk (e : Addr) (ρ₁ : List V) (σ₁ : Ow) (F₁ : Fz) (s₁ : Shared) (F' : Fz) (B : Heap) (L : Addr) (outer : List Env) (hv : v = .ref e) (hfr : A.frames = some (env :: outer)) (hf : env.frame = some L) (k : FOk G K A env ρ₁ σ₁ F₁ s₁) (l : Lk env σ F s σ₁ F₁ s₁) (S : St N0 F₁ s₁ F' s') (c : Cov F' s₁ B s'.heap) (x : ExcAt B (env :: outer) e (.ref C) L s'.heap)
/-- behind a call: it comes from a frame below -/
inductive PE (A : Around) (F : Fz) (s : Shared) (C : Addr) (v : Value) (s' : Shared) : Prop
  | mk (e : Addr) (F' : Fz) (B : Heap) (a0 : Value) (l : List Env) (hv : v = .ref e) (hfr : A.frames = some l) (S : St N0 F s F' s') (c : Cov F' s B s'.heap) (x : Heap.FlyingW B l e (.ref C) a0 s'.heap)
/-- noted by the frame, or come from below and not noted yet -/
structure Hld (G : Gl) (K : Sx) (A : Around) (env : Env) (σ : Ow) (F : Fz) (s : Shared) (e : Addr) (ρ₁ : List V) (σ₁ : Ow) (F₁ : Fz) (s₁ : Shared) (F' : Fz) (B : Heap) (outer : List Env) (s' : Shared) : Prop where
  hfr : A.frames = some (env :: outer)
  k : FOk G K A env ρ₁ σ₁ F₁ s₁
  l : Lk env σ F s σ₁ F₁ s₁
  S : St N0 F₁ s₁ F' s'
  c : Cov F' s₁ B s'.heap
section
variable {M : Model} {G : Gl} {K : Sx} {A : Around} {env : Env} {σ : Ow} {F : Fz} {s s' : Shared} {C : Addr} {v : Value} {E : Value → Shared → Prop} {Q : Unit → Shared → Prop}
theorem Hld.turn {e : Addr} {ρ₁ : List V} {σ₁ : Ow} {F₁ : Fz} {s₁ : Shared} {F' : Fz} {B h : Heap} {outer : List Env} (H : Hld G K A env σ F s e ρ₁ σ₁ F₁ s₁ F' B outer s') (st : B.StaysIn h) (u : s'.heap.UpToSlots h) : Hld G K A env σ F s e ρ₁ σ₁ F₁ s₁ F' B outer { s' with heap := h } :=
  ⟨H.hfr, H.k, H.l, (fly_step H.S H.c st u).1, (fly_step H.S H.c st u).2⟩
/-- the frame notes it -/
theorem px_note (h : PX G K A env σ F s C v s') (k : ∀ e ρ₁ σ₁ F₁ s₁ F' B L outer a0 h', v = .ref e → env.frame = some L → Hld G K A env σ F s e ρ₁ σ₁ F₁ s₁ F' B outer { s' with heap := h' } → Heap.HeldW B (env :: outer) e (.ref C) a0 L h' → Q () { s' with heap := h' }) :
    wpAny M A (noteFrame v env) Q E s' := by
  obtain ⟨e, ρ₁, σ₁, F₁, s₁, F', B, L, outer, rfl, hfr, hf, k₁, l, S, c, st, hen, ff, x⟩ := h
  have H : Hld G K A env σ F s e ρ₁ σ₁ F₁ s₁ F' B outer s' := ⟨hfr, k₁, l, S, c⟩
  rcases x with ⟨oe, vs, a0, he, hc, hd, h0, h1⟩ | ⟨a0, fl, ht, rfl | rfl⟩
  · unfold noteFrame
    simp only [hf]
    refine wpAny_bind (wpAny_field he hd h1 ?_)
    rw [if_neg (by decide)]
    refine wpAny_entryW hfr ff hf he st hen hd (Array.getElem?_eq_some_iff.mp h1).1 h0 fun h' ⟨x1, x2, x3, x4⟩ => ?_
    exact k e _ _ _ _ _ B L outer a0 h' rfl hf (H.turn x1 x4) ⟨x1, hen, x2, hc ▸ x3⟩
  · refine wpAny_looks_onW hfr hf ⟨st, hen, ff, ht⟩ fun h' hh u => ?_
    exact k e _ _ _ _ _ B L outer a0 h' rfl hf (H.turn hh.1 u) hh
  · exact wpAny_noteFrame_againW hf ht (k e _ _ _ _ _ B L outer a0 s'.heap rfl hf H ⟨st, hen, ff, ht⟩)
/-- the frame ends by it -/
theorem px_leave (h : PX G K A env σ F s C v s') (k : ∀ e ρ₁ σ₁ F₁ s₁ F' B outer a0 h', v = .ref e → Hld G K A env σ F s e ρ₁ σ₁ F₁ s₁ F' B outer { s' with heap := h' } → Heap.FlyingW B outer e (.ref C) a0 h' → Q () { s' with heap := h' }) :
    wpAny M A (leaving env v) Q E s' := by
  unfold leaving
  refine wpAny_bind (px_note h fun e ρ₁ σ₁ F₁ s₁ F' B L outer a0 h₁ hv hf H hh => ?_)
  subst hv
  refine wpAny_landsW hh fun h₂ hfl u => ?_
  have H₂ := H.turn hfl.1 u
  obtain ⟨k1, k2, ⟨_, _, k3⟩, k4⟩ := hfl
  exact k e _ _ _ _ _ B outer a0 h₂ rfl H₂ ⟨k1, k2, k3, k4⟩
/-- a loop hands it on -/
theorem px_loop (h : PX G K A env σ F s C v s') : notedBy M A env (cameBackBy M A env (PX G K A env σ F s C)) v s' := by
  unfold notedBy
  refine px_note h fun e ρ₁ σ₁ F₁ s₁ F' B L outer a0 h₁ hv hf H hh => ?_
  subst hv
  unfold cameBackBy
  obtain ⟨x1, x2, x3, oe, vs, T, oT, ts, t1, t2, t3, t4, t5, t6, t7, t8, t9⟩ := hh
  refine wpAny_bind (wpAny_field t1 t3 t4 ?_)
  rw [if_neg (show ¬ ((Value.ref T == Value.none) = true) from by simp), hf]
  unfold setFlight
  refine wpAny_bind (wpAny_field t1 t3 t4 ?_)
  rw [if_pos (show (Value.ref T != Value.none) = true from by simp)]
  have hlt : 3 < ts.size := (Array.getElem?_eq_some_iff.mp t9).1
  refine wpAny_setField t7 t8 hlt ?_
  have other : ∀ b, b ≠ T → (h₁.update T (Obj.mapFields (·.setIfInBounds 3 ((some L : Option Addr).elim Value.none fun f => rawInt f)))).get? b = h₁.get? b := fun b hb => Heap.get?_update_other _ _ (Ne.symm hb)
  have noRec : ∀ b o, h₁.get? b = some o → (∀ vs, o.data ≠ .fields vs) → b ≠ T := fun b o hb hn q => by
    rw [q, t7] at hb; cases hb; exact hn ts t8
  have st : B.StaysIn (h₁.update T (Obj.mapFields (·.setIfInBounds 3 ((some L : Option Addr).elim Value.none fun f => rawInt f)))) := fun b o hb => (other b fun q => by rw [q, t5] at hb; cases hb).trans (x1 b o hb)
  have H₂ := H.turn st fun b o hb hn => ⟨o.slots, (other b (noRec b o hb hn)).trans hb⟩
  exact ⟨e, ρ₁, σ₁, F₁, s₁, F', B, L, outer, rfl, H.hfr, hf, H.k, H.l, H₂.S, H₂.c, st, x2, x3.of_keeps fun b o hb hn => ⟨o, (other b (noRec b o hb hn)).trans hb, rfl⟩, .inr ⟨a0, rawInt L, ⟨oe, vs, T, _, _, (other e (Ne.symm t6)).trans t1, t2, t3, t4, t5, t6, Heap.get?_update_self _ t7 (Obj.isFreed_of_fields (Obj.data_mapFields t8 _)), Obj.data_mapFields t8 _, by simp [hlt]⟩, .inr rfl⟩⟩
end

/-! ## statements that end by an exception of class C -/
def WR (G : Gl) (K : Sx) (ss : List Stmt) (ρ : List V) (σ : Ow) (C : Addr) : Prop :=
  ∀ A env F s, FOk G K A env ρ σ F s → wpAny G.M A (execs ss env) (fun _ _ => False) (PX G K A env σ F s C) s
structure Rz (G : Gl) (f : Str) (xs : List V) (C : Addr) : Prop where
  is : ∃ o fd, G.mg f = some (.ref (G.fn f)) ∧ G.B.get? (G.fn f) = some o ∧ o.data = .func fd
  run : ∀ A F s vs, Rm G A F s → RelL F xs vs → wpAny G.M A (call (.ref (G.fn f)) vs) (fun _ _ => False) (PE A F s C) s
/-- a class of the text's own, made from ValueError -/
def vbm : List Value := [.type "ValueError", .type "Exception", .type "BaseException", .type "object"]
abbrev XC (G : Gl) (x : Str) (C : Addr) : Prop := OwnClsQ x C vbm "ValueError.__new__" G.mg G.B
theorem exec_of_execs {M : Model} {A : Around} {st : Stmt} {env : Env} {Q : Flow → Shared → Prop} {E : Value → Shared → Prop} {s : Shared} (h : wpAny M A (execs [st] env) Q E s) : wpAny M A (exec st env) Q E s := fun Γ p hΓ => by
  have := h Γ p hΓ
  rw [execs_cons, Sem.wp_bind'] at this
  refine Sem.wp_mono M Γ _ (fun f p' s' h' => ?_) (fun _ _ _ h' => h') _ _ this
  cases f <;> exact h'
section
variable {G : Gl} {K : Sx} {A : Around} {env : Env} {ρ : List V} {σ σ₁ : Ow} {F F₁ : Fz} {s s₁ : Shared} {ss : List Stmt} {st : Stmt} {C : Addr} {p q q' pc : Pos} {e c : PySem.Expr} {es : List PySem.Expr} {x : V} {xs : List V} {b : Bool} {f : Str}
theorem PX.from {v : Value} {s' : Shared} (L : Lk env σ F s σ₁ F₁ s₁) (h : PX G K A env σ₁ F₁ s₁ C v s') : PX G K A env σ F s C v s' :=
  h.casesOn fun e ρ₂ σ₂ F₂ s₂ F' B Lc outer hv hfr hf k l S c x => ⟨e, ρ₂, σ₂, F₂, s₂, F', B, Lc, outer, hv, hfr, hf, k, L.trans l, S, c, x⟩
theorem wr_from {t : Sem Flow} {Q : Flow → Shared → Prop} {M : Model} (L : Lk env σ F s σ₁ F₁ s₁) (h : wpAny M A t Q (PX G K A env σ₁ F₁ s₁ C) s₁) : wpAny M A t Q (PX G K A env σ F s C) s₁ := wpAny_mono h (fun _ _ q => q) fun _ _ q => q.from L
theorem wr_seq (h : WS G K [st] ρ σ fun fl ρ' σ' => fl = .next ∧ WR G K ss ρ' σ' C) : WR G K (st :: ss) ρ σ C := fun A env F s k =>
  wpAny_execs_cons (wpAny_mono (exec_of_execs (h A env F s _ k)) (fun f s₁ h' => h'.casesOn fun fl ρ' σ' F' hf k' L q' => by
    cases q'.1
    cases f <;> first | exact hf.elim | skip
    exact wr_from L (q'.2 A env F' s₁ k')) fun _ _ e => e)
theorem wr_here (h : ∀ A env F s, FOk G K A env ρ σ F s → wpAny G.M A (exec st env) (fun _ _ => False) (PX G K A env σ F s C) s) : WR G K (st :: ss) ρ σ C := fun A env F s k =>
  wpAny_execs_cons (wpAny_mono (h A env F s k) (fun _ _ q => q.elim) fun _ _ e => e)
theorem wr_if {a b' : List Stmt} (h1 : Tr G K ρ σ c b) (ht : b = true → WR G K a ρ σ C) (hf : b = false → WR G K b' ρ σ C) : WR G K (.If c a b' p :: ss) ρ σ C :=
  wr_here fun A env F s k => wpAny_If (h1.bind k.e fun F₁ s₁ S k₁ => by
    cases b
    · exact wr_from S.lk (hf rfl A env F₁ s₁ (k.step S))
    · exact wr_from S.lk (ht rfl A env F₁ s₁ (k.step S)))
/-- what a call below hands up -/
theorem px_of_pe {v : Value} {s' : Shared} (k : FOk G K A env ρ σ F s) (h : PE A F s C v s') : PX G K A env σ F s C v s' :=
  h.casesOn fun e F' B a0 l hv hfr S c x => by
    obtain ⟨outer, hA⟩ := k.top
    cases hA.symm.trans hfr
    obtain ⟨l, hl, fr⟩ := k.e.rm.frames
    cases hA.symm.trans hl
    obtain ⟨_, L, hL, _⟩ := fr env (List.mem_cons_self ..)
    exact ⟨e, ρ, σ, F, s, F', B, L, outer, hv, hA, hL, k, (St.refl k.e.rm.sub).lk, S, c, x.1, x.2.1, x.2.2.1, .inr ⟨a0, .none, x.2.2.2, .inl rfl⟩⟩
theorem rz_call {Q : Value → Shared → Prop} (h : Rz G f xs C) (ha : EvL G K ρ σ es xs) (k : FOk G K A env ρ σ F s) (hs : es.all notStar = true) (hg : globOK K f = true) : wpAny G.M A (eval (.Call (.Name f q') es [] pc) env) Q (PX G K A env σ F s C) s := by
  obtain ⟨o, fd, hf, ho, hfd⟩ := h.is
  refine wpAny_Call_NameR (name_global k.e (.inl hf) hg ?_)
  rw [back_star pc env hs]
  refine Calls.callWith_function (evalArgs_list (all_false es env) (ha.bind k.e fun vs F₁ s₁ S₁ r₁ k₁ => ⟨⟨k₁.rm.in _ _ ho, hfd⟩, wpAny_mono (h.run A F₁ s₁ vs k₁.rm r₁) (fun _ _ q => q.elim) fun v s' q => ?_⟩))
  exact (px_of_pe (k.step S₁) q).from S₁.lk
theorem wr_call (h : Rz G f xs C) (ha : EvL G K ρ σ es xs) (hs : es.all notStar = true := by rfl) (hg : globOK K f = true := by decide +kernel) : WR G K (.Expr (.Call (.Name f q') es [] pc) p :: ss) ρ σ C :=
  wr_here fun A env F s k => wpAny_Expr_any (rz_call h ha k hs hg) (by unfold interactive; rw [k.e.kind]; rfl) rfl
theorem wr_asg {n : Str} (h : Rz G f xs C) (ha : EvL G K ρ σ es xs) (hs : es.all notStar = true := by rfl) (hg : globOK K f = true := by decide +kernel) : WR G K (.Assign [.Name n q] (.Call (.Name f q') es [] pc) p :: ss) ρ σ C :=
  wr_here fun A env F s k => wpAny_Assign_Name (rz_call h ha k hs hg) rfl
theorem mem_frames {b : Addr} {l : List Env} (h : b ∈ l.filterMap (·.frame)) : ∃ env ∈ l, env.frame = some b := List.mem_filterMap.mp h
theorem fun_frames {B h : Heap} {l : List Env} (fr : FrOk F h l) (hB : ∀ L, F L = none → (∃ env ∈ l, env.frame = some L) → B.get? L = none) : h.FunFrames B l := by
  induction l with
  | nil => trivial
  | cons env r ih =>
    obtain ⟨hk, L, hf, hF, o, es, n, ho, hd⟩ := fr env (List.mem_cons_self ..)
    exact ⟨hk, ⟨L, o, hf, hB L hF ⟨env, List.mem_cons_self .., hf⟩, ho, fun vs q => nomatch hd.symm.trans q⟩, ih (fun e m => fr e (List.mem_cons_of_mem _ m)) fun L hF q => hB L hF (q.imp fun e t => ⟨List.mem_cons_of_mem _ t.1, t.2⟩)⟩
theorem wr_raise {n : Str} {a : Str} {kk : Nat} {pa : Pos} (X : XC G n C) (hg : globOK K n = true := by decide +kernel) : WR G K (.Raise (some (.Call (.Name n q) [.Constant (.str a) kk pa] [] pc)) none p :: ss) ρ σ C :=
  wr_here fun A env F s k => by
    obtain ⟨tl, N, nm, qn, bs, hdct, sn, sub, ab, col, dd, k0, k1, k2, k3, k5, mN, hC, hN, hni, T⟩ := X.own.obj
    refine wpAny_Raise_call_subU (C := C) (nm := nm) (q := qn) (N := N) (bs := bs) (bm := tl) (hdct := hdct) (sn := sn) (sub := sub) (ab := ab) (col := col) (dd := dd) (k0 := k0) (k1 := k1) (k2 := k2) (k3 := k3) (k5 := k5)
      (Fn := PySem.F.excBase_ValueError) (hBn := by decide +kernel) (F := PySem.F.excBase_ValueError) (mN := mN) (T.hasType (by decide +kernel)) k.e.rm.handled (by rw [back_star pc env rfl]; rfl) hni (name_global k.e (.inl X.own.bound) hg ⟨rfl, ?_⟩)
    rw [back_star pc env rfl]
    refine Calls.evalArgs_plain (Calls.spliced_cons (ev_str.bind k.e fun v F₁ s₁ S₁ r₁ k₁ => Calls.spliced_nil ?_))
    refine ⟨rfl, show 1 ≤ sizeLine by decide, k₁.rm.in _ _ hC, hN.keeps k₁.rm.in, T.keeps k₁.rm.in, fun h' e hm => ?_⟩
    obtain ⟨outer, hA⟩ := k.top
    obtain ⟨l, hl, fr⟩ := k₁.rm.frames
    cases hA.symm.trans hl
    obtain ⟨_, L, hL, _⟩ := fr env (List.mem_cons_self ..)
    obtain ⟨t, he, _, _⟩ := hm.there
    -- the base: all but the frames
    let B := hideAll s₁.heap ((env :: outer).filterMap (·.frame))
    have gB : ∀ b o, s₁.heap.get? b = some o → (∃ env' ∈ env :: outer, env'.frame = some b) ∨ B.get? b = some o := fun b o e => (Classical.em (b ∈ (env :: outer).filterMap (·.frame))).imp mem_frames fun m => hideAll_get _ e m
    have st : B.StaysIn h' := fun b o e => hm.keeps b o (of_hideAll _ e)
    have kp : St N0 F₁ s₁ F₁ { s₁ with heap := h' } := .grow (t := s₁.toks) k₁.rm.sub hm.keeps
    refine ⟨e, ρ, σ, F₁, s₁, F₁, B, L, outer, rfl, hA, hL, k.step S₁, S₁.lk, kp, ⟨fun a o ea => ?_, fun b o eb => ?_⟩, st, ?_, ?_, .inl ⟨_, _, .ref t, he, rfl, rfl, rfl, rfl⟩⟩
    · refine (gB a o (k₁.rm.sub a o ea)).elim (fun q => ?_) id
      obtain ⟨env', m, hf⟩ := q
      obtain ⟨_, L', hf', hF, _⟩ := fr env' m
      cases hf.symm.trans hf'
      exact nomatch hF.symm.trans ea
    · refine ⟨o, hm.keeps _ _ eb, (gB b o eb).elim (fun q => .inr ?_) .inl⟩
      obtain ⟨env', m, hf⟩ := q
      obtain ⟨_, L', hf', _, o', es, n, ho, hd⟩ := fr env' m
      cases hf.symm.trans hf'
      cases eb.symm.trans ho
      exact ⟨es, n, hd⟩
    · cases hq : B.get? e with
      | none => rfl
      | some o => exact nomatch hm.new.symm.trans (of_hideAll _ hq)
    · exact fun_frames (fun env' m => (fr env' m).imp id fun t => t.imp fun _ t => ⟨t.1, t.2.1, t.2.2.imp fun _ t => t.imp fun _ t => t.imp fun _ t => ⟨hm.keeps _ _ t.1, t.2⟩⟩) fun L _ q => hideAll_none _ (List.mem_filterMap.mpr (q.imp fun _ t => t))
theorem rzO_of {np : Nat} {sts : List Stmt} {fa : Addr} (FA : FnO G.B fa K np sts) (hlen : xs.length = np) (hd : 0 < G.d) (h : WR G.dn K sts (xs ++ List.replicate (K.ns.length - np) .unb) σ0 C) : ∀ A F s vs, Rm G A F s → RelL F xs vs → wpAny G.M A (call (.ref fa) vs) (fun _ _ => False) (PE A F s C) s := fun A F s vs k r =>
  wpAny_call (enter_core FA hlen hd k r (σ := σ0) (fun _ _ q => nomatch q) fun env s₁ k₁ S₁ hown _ => by
    obtain ⟨l, hl, _⟩ := k.frames
    refine wpAny_mono (h _ _ _ _ k₁) (fun _ _ q => q.elim) fun v s' q => px_leave q fun e ρ₂ σ₂ F₂ s₂ F' B outer a0 h' hv H x => ?_
    cases (Around.frames_deeper hl).symm.trans H.hfr
    exact ⟨e, F', B, a0, l, hv, hl, S₁.then (H.l.trans H.S.lk).S fun b o e q => q.elim (fun q => nomatch e.symm.trans (hown b q)) fun q => q.elim fun _ q => (nomatch q), (H.c.from H.l.S).from S₁, x⟩)
theorem rz_of {np : Nat} {sts : List Stmt} (FA : FnAt G.B G.mg f K np sts) (hlen : xs.length = np) (hd : 0 < G.d) (h : WR G.dn K sts (xs ++ List.replicate (K.ns.length - np) .unb) σ0 C) : Rz G f xs C :=
  ⟨FA.obj.imp fun _ q => q.imp fun _ q => ⟨q.1, q.2.1, q.2.2.1⟩, rzO_of FA.o hlen hd h⟩
end
end Mine

set_option autoImplicit false
set_option linter.all false
set_option genSizeOf false
set_option genInjectivity false
set_option maxRecDepth 100000
namespace Mine
open PySem PyProof.Rows PySem.W

/-! ## isinstance of an exception -/
def IX (G : Gl) (C : Addr) (c : Value) (b : Bool) : Prop := ∀ A s E (Q : Value → Shared → Prop) e oe, (∀ a o, G.B.get? a = some o → s.heap.get? a = some o) → s.heap.get? e = some oe → oe.cls = .ref C → Q (.bool b) s → wpAny G.M A (call (.builtin "isinstance") [.ref e, c]) Q E s
def mroAt (mg : Str → Option Value) (h : Heap) (x t : Str) (b : Bool := true) : Prop := ∃ C T o cd, mg x = some (.ref C) ∧ mg t = some (.ref T) ∧ h.get? C = some o ∧ o.data = .cls cd ∧ cd.mro.contains (.ref T) = b
section
variable {G : Gl} {x t : Str} {C T : Addr}
theorem ix_val (X : XC G x C) : IX G C (.type "ValueError") true := fun A s E Q e oe hB he hcls hq => by
  obtain ⟨tl, N, nm, qn, bs, hdct, sn, sub, ab, col, dd, k0, k1, k2, k3, k5, mN, hC, hN, hni, Tl⟩ := X.own.obj
  have hC' := hB _ _ hC
  have hin : (Value.ref C :: tl).contains (.type "ValueError") = true := by rw [List.contains_cons, Tl.hasType (show vbm.contains (.type "ValueError") = true by decide +kernel), Bool.or_true]
  refine call_isinstance_of ?_ (by intro e; cases e)
  unfold Builtin.«isinstance.nested»
  obtain ⟨hh, g, d, tk, os⟩ := s
  repeat (first | (with_reducible refine wpAny_loadPart_at he ?_; rw [hcls]) | (with_reducible refine wpAny_isSubtype_exc hC' ?_; rw [hin]) | wp_step)
  exact hq
theorem ix_own (X : XC G x C) (XT : XC G t T) (hm : mroAt G.mg G.B x t) : IX G C (.ref T) true := fun A s E Q e oe hB he hcls hq => by
  obtain ⟨tl, N, nm, qn, bs, hdct, sn, sub, ab, col, dd, k0, k1, k2, k3, k5, mN, hC, hN, hni, Tl⟩ := X.own.obj
  obtain ⟨tl', N', nm', qn', bs', hdct', sn', sub', ab', col', dd', k0', k1', k2', k3', k5', mN', hT, _, _, _⟩ := XT.own.obj
  have hC' := hB _ _ hC
  have hT' := hB _ _ hT
  have hin : (Value.ref C :: tl).contains (.ref T) = true := by
    obtain ⟨C₁, T₁, o, cd, h1, h2, h3, h4, h5⟩ := hm
    cases X.own.bound.symm.trans h1
    cases XT.own.bound.symm.trans h2
    cases hC.symm.trans h3
    cases h4
    exact h5
  refine call_isinstance_of ?_ (by intro e; cases e)
  unfold Builtin.«isinstance.nested»
  obtain ⟨hh, g, d, tk, os⟩ := s
  by_cases hCT : C = T
  · subst hCT
    repeat (first | (with_reducible refine wpAny_loadPart_at he ?_; rw [hcls]) | (with_reducible refine wpAny_isSubtype_exc hC' ?_; rw [hin]) | with_reducible refine wpAny_loadPart_at hT' ?_ | wp_step)
    exact hq
  · have hne : (Value.ref C == Value.ref T) = false := by simp [hCT]
    repeat (first | (with_reducible refine wpAny_loadPart_at he ?_; rw [hcls]) | (with_reducible refine wpAny_isSubtype_exc hC' ?_; rw [hin]) | with_reducible refine wpAny_loadPart_at hT' ?_ | rw [hne] | wp_step)
    exact hq
end
/-! ## in a handler's suite -/
structure SG (G : Gl) (K : Sx) (env : Env) (F : Fz) (s : Shared) : Prop where
  go : G.Ok
  base : ∀ a o, G.B.get? a = some o → F a = some o
  sub : ∀ a o, F a = some o → s.heap.get? a = some o
  sc : env.scope = K.sc
  kind : env.scope.kind = .function
  globals : env.globals = mainGlobals
  builtins : env.builtins = builtinsNs
structure SOk (G : Gl) (K : Sx) (env : Env) (n : Str) (e C : Addr) (F : Fz) (s : Shared) : Prop where
  g : SG G K env F s
  loc : ∃ m, s.heap.Ns env.locals m ∧ m n = some (.ref e)
  exc : ∃ oe vs, s.heap.get? e = some oe ∧ oe.cls = .ref C ∧ oe.data = .fields vs
def ES (G : Gl) (K : Sx) (n : Str) (C : Addr) (ex : PySem.Expr) (x : V) : Prop := ∀ A env e F s E, SOk G K env n e C F s → wpAny G.M A (eval ex env) (PV F s x) E s
def locOK (K : Sx) (n : Str) : Bool := K.sc.names.lookup n == some .local && !(n == ("__debug__" : Str))
section
variable {G : Gl} {K : Sx} {A : Around} {env : Env} {n t : Str} {e C : Addr} {F : Fz} {s : Shared} {E : Value → Shared → Prop} {c : Value} {p q q₁ q₂ q₃ q₄ : Pos} {b : Bool} {ex : PySem.Expr} {x y : V}
theorem SG.in (k : SG G K env F s) : ∀ b o, G.B.get? b = some o → s.heap.get? b = some o := fun b o h => k.sub b o (k.base b o h)
theorem SG.same (k : SG G K env F s) {v : Value} {tk : Nat} (r : Rel F x v) : PV F s x v { s with toks := tk } := ⟨F, .grow k.sub fun _ _ e => e, r⟩
theorem SG.glob {x : Str} {Q : Value → Shared → Prop} (k : SG G K env F s) (hv : G.mg x = some c ∨ (G.mg x = none ∧ G.mb x = some c)) (h : globOK K x = true) (h2 : Q c s) : wpAny G.M A (eval (.Name x p) env) Q E s := by
  have hg := globOK_inv h
  refine Calls.Name_function_global k.kind (by show env.scope.names.lookup x = _; rw [k.sc]; exact hg.1) ?_ hg.2
  have hG : s.heap.Ns env.globals G.mg := by rw [k.globals]; exact k.go.g.keeps k.in
  exact hv.elim (fun hv => Calls.loadGlobal_global hG hv h2) fun hv => Calls.loadGlobal_builtin hG hv.1 (by rw [k.builtins]; exact k.go.b.keeps k.in) hv.2 h2
theorem es_inst (hi : IX G C c b) (hv : G.mg t = some c ∨ (G.mg t = none ∧ G.mb t = some c)) (hn : locOK K n = true := by decide +kernel) (h1 : globOK K "isinstance" = true := by decide +kernel) (h2 : globOK K t = true := by decide +kernel) : ES G K n C (.Call (.Name "isinstance" q) [.Name n q₁, .Name t q₂] [] p) (.bool b) := fun A env e F s E k => by
  refine wpAny_Call_NameR (k.g.glob (.inr (k.g.go.blt 1 _ _ rfl)) h1 ?_)
  rw [back_star p env rfl]
  obtain ⟨m, hm, hme⟩ := k.loc
  obtain ⟨oe, vs, he, hc, _⟩ := k.exc
  have hn := Bool.and_eq_true_iff.mp hn
  refine Calls.callWith_builtin (any_false [_, _] env) (evalArgs_list (all_false [_, _] env) (Calls.spliced_cons (wpAny_Name (wpAny_loadName_local k.g.kind (by show env.scope.names.lookup n = _; rw [k.g.sc]; exact eq_of_beq hn.1) hm hme (Calls.spliced_cons (k.g.glob hv h2 (Calls.spliced_nil ?_)))) ((Bool.not_eq_true' _).mp hn.2))))
  exact hi A s E _ e oe k.g.in he hc (k.g.same (tk := s.toks) rfl)
theorem es_and {l r : PySem.Expr} (h1 : ES G K n C l (.bool true)) (h2 : ES G K n C r (.bool b)) (st : ∀ {env : Env} {e : Addr} {F F' : Fz} {s s' : Shared}, SOk G K env n e C F s → St N0 F s F' s' → SOk G K env n e C F' s') : ES G K n C (.BoolOp .And [l, r] p) (.bool b) := fun A env e F s E k => by
  show wpAny _ A (do
      let v ← eval l env
      standAt p
      let b ← holding [v] (truthy v)
      match BoolOp.And, b with
      | .And, false | .Or, true => pure v
      | _, _ => boolOp p .And (evalEach [r] env)) _ _ s
  refine wpAny_bind (wpAny_mono (h1 A env e F s E k) (fun v s₁ q => ?_) fun _ _ e => e)
  obtain ⟨F₁, S₁, r₁⟩ := q
  cases show v = .bool true from r₁
  refine wpAny_bind (wpAny_standAt (wpAny_bind (wpAny_holding (wpAny_truthy_bool ?_))))
  exact wp_from S₁ (h2 A env e F₁ s₁ E (st k S₁))
theorem SOk.step {F' : Fz} {s' : Shared} (k : SOk G K env n e C F s) (S : St N0 F s F' s') : SOk G K env n e C F' s' :=
  ⟨⟨k.g.go, fun a o e => S.up a o (k.g.base a o e), S.sub, k.g.sc, k.g.kind, k.g.globals, k.g.builtins⟩, k.loc.imp fun m q => ⟨ns_keepO q.1 fun o e => S.keepO _ o e id, q.2⟩, k.exc.imp fun oe q => q.imp fun vs q => ⟨S.keep _ _ q.1 id (fun _ _ h => nomatch q.2.2.symm.trans h), q.2⟩⟩
/-- isinstance(e, T) and isinstance(e, ValueError) -/
theorem es_both {x : Str} {T : Addr} {r₁ r₂ r₃ r₄ r₅ r₆ r₇ r₈ r₉ : Pos} (X : XC G x C) (XT : XC G t T) (hm : mroAt G.mg G.B x t) (hV : G.mg "ValueError" = none ∧ G.mb "ValueError" = some (.type "ValueError")) (hn : locOK K n = true := by decide +kernel) (h1 : globOK K "isinstance" = true := by decide +kernel) (h2 : globOK K t = true := by decide +kernel) (h3 : globOK K "ValueError" = true := by decide +kernel) :
    ES G K n C (.BoolOp .And [.Call (.Name "isinstance" r₁) [.Name n r₂, .Name t r₃] [] r₄, .Call (.Name "isinstance" r₅) [.Name n r₆, .Name "ValueError" r₇] [] r₈] r₉) (.bool true) :=
  es_and (es_inst (ix_own X XT hm) (.inl XT.own.bound) hn h1 h2) (es_inst (ix_val X) (.inr hV) hn h1 h3) SOk.step
end
/-! ## try -/
section
variable {G : Gl} {K : Sx} {A : Around} {env : Env} {ρ : List V} {σ : Ow} {F : Fz} {s : Shared} {E : Value → Shared → Prop} {Q : KS} {ss body : List Stmt} {C : Addr} {p np pos : Pos} {x n : Str} {z : V} {hs : List ExceptHandler} {h₀ : ExceptHandler}
theorem ws_try_ok (h : WS G K body ρ σ (Kc G K ss Q)) : WS G K (.Try body (h₀ :: hs) [] [] p :: ss) ρ σ Q :=
  ws_cons fun A env F s E k => wpAny_Try_except (wpAny_mono (h A env F s _ k) (fun f s₁ q => q.casesOn fun fl ρ' σ' F' hf k' L q => by
    cases f <;> cases fl <;> first | exact hf.elim | skip
    · exact wpAny_execs_nil ⟨.next, ρ', σ', F', trivial, k', L, q⟩
    · exact ⟨_, ρ', σ', F', hf, k', L, q⟩) fun _ _ e => e)
theorem unb_get {n i : Nat} {v : V} (h : (List.replicate n V.unb)[i]? = some v) : v = .unb := by
  obtain ⟨_, h⟩ := List.getElem?_eq_some_iff.mp h
  rw [List.getElem_replicate] at h; exact h.symm
/-- the frame's names are forgotten -/
theorem FOk.forget (k : FOk G K A env ρ σ F s) {h' : Heap} {t : Nat} {m : Str → Option Value} (hn : h'.Ns env.locals m) (hs : Heap.SameBut env.locals s.heap h') : FOk G K A env (List.replicate K.ns.length .unb) σ F { s with heap := h', toks := t } ∧ Lk env σ F s σ F { s with heap := h', toks := t } := by
  obtain ⟨mm, ⟨o, es, ep, ho, hd, hr⟩, vars⟩ := k.e.loc.vars
  have up : ∀ b o, b ≠ env.locals → s.heap.get? b = some o → h'.get? b = some o := hs.extBut
  have ncell : ∀ {c : Addr} {ov : Option Value}, s.heap.IsCell c ov → h'.IsCell c ov := fun h => h.sameBut hs (by rintro rfl; obtain ⟨oc, hoc, hdc⟩ := h; rw [ho] at hoc; cases hoc; rw [hd] at hdc; cases hdc)
  obtain ⟨o', es', ep', ho', hd', _⟩ := id hn
  refine ⟨⟨⟨⟨k.e.rm.go, k.e.rm.base, fun a o e => up a o (by rintro rfl; exact nomatch k.e.loc.out.symm.trans e) (k.e.rm.sub a o e), k.e.rm.depth, k.e.rm.units, k.e.rm.handled, k.e.rm.frs fun L _ hL t => ⟨hL, (Classical.em (L = env.locals)).elim (fun e => by subst e; exact ⟨o', es', ep', ho', hd'⟩) fun e => t.imp fun _ t => t.imp fun _ t => t.imp fun _ t => ⟨up _ _ e t.1, t.2⟩⟩⟩,
    k.e.sc, k.e.kind, k.e.globals, k.e.builtins, fun a xs q => (k.e.own a xs q).imp id fun t => t.imp fun vs t => t.imp fun n t => ⟨up _ _ (by rintro rfl; rw [ho] at t; cases t.1; cases hd) t.1, t.2⟩,
    ⟨List.length_replicate, k.e.loc.out, m, hn, fun i y v hy hv => ?_⟩⟩, k.top, k.apart, k.nodup, fun x c hc => (k.own x c hc).imp (fun h => h.imp fun _ h => ncell h) id⟩,
    ⟨St.change k.e.rm.sub k.e.loc.out (.inl (.inl (.inl rfl))) hs.extBut ⟨o', ho', fun _ _ _ _ _ => ⟨es', ep', hd'⟩⟩, fun b xs q => .inl ⟨xs, q⟩⟩⟩
  cases unb_get hv
  have hi : i < ρ.length := by rw [k.e.loc.len]; exact (List.getElem?_eq_some_iff.mp hy).1
  exact ⟨fun _ h => absurd rfl h, fun hc => ((vars i y _ hy (List.getElem?_eq_getElem hi)).2 hc).imp fun c u => u.imp fun ov u => ⟨u.1, ncell u.2.1, fun h => absurd rfl h, u.2.2.2⟩⟩
theorem FOk.sg (k : FOk G K A env ρ σ F s) : SG G K env F s := ⟨k.e.rm.go, k.e.rm.base, k.e.rm.sub, k.e.sc, k.e.kind, k.e.globals, k.e.builtins⟩
/-- the first clause catches -/
theorem caught {b₀ : Stmt} {suite : List Stmt} {e : Addr} {ρ₁ : List V} {σ₁ : Ow} {F₁ F' : Fz} {s₁ s' : Shared} {B : Heap} {a0 : Value} {outer : List Env} (X : XC G x C) (H : Hld G K A env σ F s e ρ₁ σ₁ F₁ s₁ F' B outer s') (hfl : Heap.FlyingW B (env :: outer) e (.ref C) a0 s'.heap)
    (hsuite : ∀ A env e F s E, SOk G K env n e C F s → wpAny G.M A (execs (b₀ :: suite) env) (fun f s' => ∃ v, f = .ret v ∧ PV F s z v s') E s) (hq : ∀ σ, Q (.ret z) (List.replicate K.ns.length .unb) σ) (hn : locOK K n = true) (hg : globOK K x = true) :
    wpAny G.M A (handleBy (.ref e) env (.ExceptHandler (some (.Name x np)) (some n) (b₀ :: suite) pos :: hs)) (PS G K A env σ F s Q) E s' := by
  have k := H.k.step H.S
  obtain ⟨oe, vs, he, hc, hd, _⟩ := hfl.first
  have hnl : env.kindOf n = some .local := by show env.scope.names.lookup n = _; rw [k.e.sc]; exact eq_of_beq (Bool.and_eq_true_iff.mp hn).1
  have hp : (env.scope.kind == .class || (env.scope.kind == .module && env.locals != env.globals)) = false := by rw [k.e.kind]; rfl
  refine handleBy_own_as (C := C) (x := x) (bmB := vbm) (newId := "ValueError.__new__") (mg := G.mg) (by decide +kernel) (k.sg.glob (.inl X.own.bound) hg ⟨rfl, X.keeps k.e.rm.in, ⟨oe, he, hc⟩, ?_⟩)
  refine lands_againW hfl fun h₂ hfl₂ u₂ => ?_
  have H₂ := H.turn hfl₂.1 u₂
  have k₂ := H₂.k.step H₂.S
  obtain ⟨m, hm, _⟩ := k₂.e.loc.vars
  obtain ⟨oe₂, vs₂, he₂, hc₂, hd₂, _⟩ := hfl₂.first
  refine wpAny_storeName_local hnl hm (fun h₃ hn₃ hs₃ => ?_) hp
  obtain ⟨k₃, L₃⟩ := k₂.forget (t := s'.toks + 1) hn₃ hs₃
  have he₃ : h₃.get? e = some oe₂ := hs₃.extBut e oe₂ (by rintro rfl; obtain ⟨o, es, ep, ho, hdd, _⟩ := hm; rw [he₂] at ho; cases ho; rw [hd₂] at hdd; cases hdd) he₂
  have K₃ : SOk G K env n e C F' { s' with heap := h₃, toks := s'.toks + 1 } := ⟨k₃.sg, ⟨_, hn₃, if_pos rfl⟩, oe₂, vs₂, he₃, hc₂, hd₂⟩
  refine wpAny_mono (hsuite _ env e F' _ _ K₃) (fun f s₄ q => ?_) fun _ _ e => e
  obtain ⟨v, rfl, F₄, S₄, r₄⟩ := q
  obtain ⟨m₄, hm₄, _⟩ := (K₃.step S₄).loc
  refine wpAny_nameGoes hnl hm₄ hp fun h₅ m₅ hn₅ hs₅ => ?_
  obtain ⟨k₅, L₅⟩ := (k₃.step S₄).forget (t := s₄.toks + 1) hn₅ hs₅
  exact ⟨.ret z, _, σ₁, F₄, r₄, k₅, ((((H₂.l.trans H₂.S.lk).trans L₃).trans S₄.lk).trans L₅), hq σ₁⟩
theorem ws_try {b₀ : Stmt} {suite : List Stmt} (hb : WR G K body ρ σ C) (X : XC G x C)
    (hsuite : ∀ A env e F s E, SOk G K env n e C F s → wpAny G.M A (execs (b₀ :: suite) env) (fun f s' => ∃ v, f = .ret v ∧ PV F s z v s') E s) (hq : ∀ ρ σ, Q (.ret z) ρ σ) (hn : locOK K n = true := by decide +kernel) (hg : globOK K x = true := by decide +kernel) :
    WS G K (.Try body (.ExceptHandler (some (.Name x np)) (some n) (b₀ :: suite) pos :: hs) [] [] p :: ss) ρ σ Q :=
  ws_cons fun A env F s E k => wpAny_Try_except (wpAny_mono (hb A env F s k) (fun _ _ q => q.elim) fun v s₁ q => px_note q fun e ρ₁ σ₁ F₁ s₁ F' B L outer a0 h₁ hv hf H hh => by
    subst hv
    refine wpAny_landsW hh fun h₂ hfl u => ?_
    exact caught X (H.turn hfl.1 u) hfl hsuite (fun σ => hq _ σ) hn hg)
theorem suite_ret {ex : PySem.Expr} {pr : Pos} (h : ES G K n C ex z) : ∀ A env e F s E, SOk G K env n e C F s → wpAny G.M A (execs [.Return (some ex) pr] env) (fun f s' => ∃ v, f = .ret v ∧ PV F s z v s') E s := fun A env e F s E k =>
  wpAny_execs_cons (wpAny_Return_some (wpAny_mono (h A env e F s E k) (fun v s' q => ⟨v, rfl, q⟩) fun _ _ e => e))
end
end Mine

set_option autoImplicit false
set_option linter.all false
set_option maxRecDepth 100000
namespace Mine
open PySem PyProof.Rows PySem.W
/-! ## which classes are made from which -/
def mroB (s : Shared) (x t : Str) (b : Bool) : Bool := match s.heap.nsMap mainGlobals x, s.heap.nsMap mainGlobals t with
  | some (.ref C), some (.ref T) => (match s.heap.get? C with
    | some o => (match o.data with
      | .cls cd => cd.mro.contains (.ref T) == b
      | _ => false)
    | none => false)
  | _, _ => false
theorem mroB_at {s : Shared} {x t : Str} {b : Bool} (h : mroB s x t b = true) : mroAt (s.heap.nsMap mainGlobals) s.heap x t b := by
  unfold mroB at h
  split at h
  · rename_i C T h1 h2
    split at h
    · rename_i o h3
      split at h
      · rename_i cd h4
        exact ⟨C, T, o, cd, h1, h2, h3, h4, eq_of_beq h⟩
      · cases h
    · cases h
  · cases h
def MroP (l : List (Str × Str × Bool)) (mg : Str → Option Value) (h : Heap) : Prop := ∀ p ∈ l, mroAt mg h p.1 p.2.1 p.2.2
theorem mroP_of {l : List (Str × Str × Bool)} {s : Shared} (h : (l.all fun p => mroB s p.1 p.2.1 p.2.2) = true) : MroP l (s.heap.nsMap mainGlobals) s.heap := fun p hp => mroB_at (List.all_eq_true.mp h p hp)
theorem MroP.keeps {l : List (Str × Str × Bool)} (mg : Str → Option Value) (h h' : Heap) (x : MroP l mg h) (k : ∀ b o, h.get? b = some o → h'.get? b = some o) : MroP l mg h' := fun p hp =>
  (x p hp).imp fun _ q => q.imp fun _ q => q.imp fun _ q => q.imp fun _ q => ⟨q.1, q.2.1, k _ _ q.2.2.1, q.2.2.2⟩
theorem top_own {p : Program} {loose : List Str} {mean : ExcName → Option Value} {mg mb : Str → Option Value} {h : Heap} (T : Top p loose mean mg mb h) {x : Str} (hs : specOf p x = some ("ValueError.__new__", vbm)) : ∃ C, OwnClsQ x C vbm "ValueError.__new__" mg h := (T.ownAt hs).imp fun _ q => q.1
theorem top_val {p : Program} {loose : List Str} {mean : ExcName → Option Value} {mg mb : Str → Option Value} {h : Heap} (T : Top p loose mean mg mb h) (hk : freeChk p loose "ValueError" = true) : mg "ValueError" = none ∧ mb "ValueError" = some (.type "ValueError") :=
  (top_builtin T hk).imp id fun q => q.trans (by decide +kernel)
theorem top_sys {p : Program} {loose : List Str} {mean : ExcName → Option Value} {mg mb : Str → Option Value} {h : Heap} (T : Top p loose mean mg mb h) (hi : importsNone p = true) : ∃ o, h.get? sysModules = some o := by
  obtain ⟨mm, hm, _⟩ := (T.seer hi).mods
  exact Ns_obj hm
end Mine

set_option autoImplicit false
set_option linter.all false
set_option genSizeOf false
set_option genInjectivity false
set_option maxRecDepth 100000
namespace Mine
open PySem PyProof.Rows PySem.W

/-! ## a clause that does not catch -/
section
variable {M : Model} {A : Around} {E : Value → Shared → Prop} {h : Heap} {g : Array GenState} {d : Drawn} {t : Nat} {os : OsState}
variable {nm q nm' q' : Str} {C N C' N' : Addr} {bs bm bs' bm' : List Value} {hdct hdct' : Bool} {sn sn' : List Str} {sub sub' : List Value} {ab ab' : Bool} {col col' : Option Bool} {dd dd' : Option Addr} {k0 k1 k2 k3 k5 l0 l1 l2 l3 l5 : Option Value} {newId newId' : String}
theorem exc_no {e : Addr} {oe : Obj} {Q : Bool → Shared → Prop} (hC : h.get? C = some (excClassObj nm q C N bs bm hdct sn sub ab col dd k0 k1 k2 k3 k5 newId)) (hC' : h.get? C' = some (excClassObj nm' q' C' N' bs' bm' hdct' sn' sub' ab' col' dd' l0 l1 l2 l3 l5 newId')) (he : h.get? e = some oe) (hcls : oe.cls = .ref C)
    (hbase : bm'.contains (.type "BaseException") = true) (hno : (Value.ref C :: bm).contains (.ref C') = false) (hq : Q false ⟨h, g, d, t, os⟩) : wpAny M A (excMatches (.ref e) (.ref C')) Q E ⟨h, g, d, t, os⟩ := by
  have hcB : (Value.ref C' :: bm').contains (.type "BaseException") = true := by rw [List.contains_cons, hbase, Bool.or_true]
  have f := tc_notTuple
  unfold excMatches
  repeat (first | (with_reducible refine wpAny_loadPart_at he ?_; rw [hcls]) | with_reducible refine wpAny_loadPart_at hC' ?_ | (with_reducible refine wpAny_isSubtype_exc hC' ?_; rw [hcB]) | (with_reducible refine wpAny_isSubtype_exc hC ?_; rw [hno]) | wp_step)
  exact hq
end
section
variable {G : Gl} {K : Sx} {A : Around} {env : Env} {ρ : List V} {σ : Ow} {F : Fz} {s : Shared} {E : Value → Shared → Prop} {Q : KS} {ss body : List Stmt} {C C' : Addr} {p np np' pos pos' : Pos} {x x' n n' : Str} {z : V} {hs : List ExceptHandler} {e : PySem.Expr} {es : List PySem.Expr} {xs : List V} {f : Str}
theorem ws_try2 {b₀ : Stmt} {suite sub : List Stmt} (hb : WR G K body ρ σ C) (X : XC G x C) (X' : XC G x' C') (hno : mroAt G.mg G.B x x' false)
    (hsuite : ∀ A env e F s E, SOk G K env n e C F s → wpAny G.M A (execs (b₀ :: suite) env) (fun f s' => ∃ v, f = .ret v ∧ PV F s z v s') E s) (hq : ∀ ρ σ, Q (.ret z) ρ σ) (hn : locOK K n = true := by decide +kernel) (hg : globOK K x = true := by decide +kernel) (hg' : globOK K x' = true := by decide +kernel) :
    WS G K (.Try body (.ExceptHandler (some (.Name x' np')) (some n') sub pos' :: .ExceptHandler (some (.Name x np)) (some n) (b₀ :: suite) pos :: hs) [] [] p :: ss) ρ σ Q :=
  ws_cons fun A env F s E k => wpAny_Try_except (wpAny_mono (hb A env F s k) (fun _ _ q => q.elim) fun v s₁ q => px_note q fun e ρ₁ σ₁ F₁ s₁ F' B L outer a0 h₁ hv hf H hh => by
    subst hv
    refine wpAny_landsW hh fun h₂ hfl u => ?_
    have H₂ := H.turn hfl.1 u
    have k₂ := H₂.k.step H₂.S
    obtain ⟨oe, vs, he, hc, _⟩ := hfl.first
    refine wpAny_handleBy_cons (codeAny_handlers_test (k₂.sg.glob (.inl X'.own.bound) hg' ?_)) (by intro q; cases q)
    obtain ⟨tl, N, nm, qn, bs, hdct, sn, sub, ab, col, dd, k0, k1, k2, k3, k5, mN, hC, _, _, _⟩ := X.own.obj
    obtain ⟨tl', N', nm', qn', bs', hdct', sn', sub', ab', col', dd', l0, l1, l2, l3, l5, mN', hC', _, _, T'⟩ := X'.own.obj
    refine exc_no (k₂.e.rm.in _ _ hC) (k₂.e.rm.in _ _ hC') he hc (T'.hasType (by decide +kernel)) ?_ ?_
    · obtain ⟨C₁, T₁, o, cd, h1, h2, h3, h4, h5⟩ := hno
      cases X.own.bound.symm.trans h1
      cases X'.own.bound.symm.trans h2
      cases hC.symm.trans h3
      cases h4
      exact h5
    · exact caught X H₂ hfl hsuite (fun σ => hq _ σ) hn hg)
/-- return (text, f(..)), which raises -/
theorem wr_ret2 {a : Str} {kk nn : Nat} {pa pr q' pc : Pos} (h : Rz G f xs C) (ha : EvL G K ρ σ es xs) (hs : es.all notStar = true := by rfl) (hg : globOK K f = true := by decide +kernel) : WR G K (.Return (some (.Tuple [.Constant (.str a) kk pa, .Call (.Name f q') es [] pc] nn p)) pr :: ss) ρ σ C :=
  wr_here fun A env F s k => wpAny_Return_some (Tuple_ (by
    rw [back_star p env rfl]
    exact Calls.spliced_cons (ev_str.bind k.e fun v F₁ s₁ S₁ r₁ k₁ => Calls.spliced_cons (wpAny_mono (rz_call h ha (k.step S₁) hs hg) (fun _ _ q => q) fun _ _ q => q.from S₁.lk))))
theorem SG.push (k : SG G K env F s) {o : Obj} {t : Nat} {v : Value} (hf : Obj.isFreed o = false) (r : Rel (F.add s.heap.objs.size o) z v) : PV F s z v { s with heap := s.heap.push o, toks := t } :=
  ⟨_, (St.grow (t := t) k.sub fun _ _ e => Heap.get?_push_of_some _ e).freeze (size_none _) (Heap.get?_push_size _ hf) (by
    cases q : F s.heap.objs.size with
    | none => rfl
    | some o => exact nomatch (size_none s.heap).symm.trans (k.sub _ _ q)), r⟩
/-- (text, e) in a clause -/
theorem es_pair {a : Str} {kk nn : Nat} {pa : Pos} {ex : PySem.Expr} {x : V} (h : ES G K n C ex x) (l : List Nat) (hl : a.cps.toList = l := by decide +kernel) (hs : notStar ex = true := by rfl) : ES G K n C (.Tuple [.Constant (.str a) kk pa, ex] nn p) (.tup [.str l, x]) := fun A env e F s E k => by
  subst hl
  refine Tuple_ ?_
  rw [back_star p env (by rw [List.all_cons, List.all_cons, hs]; rfl)]
  have S₁ : St N0 F s F { s with toks := s.toks + 1 } := .grow (t := s.toks + 1) k.g.sub fun _ _ e => e
  refine Calls.spliced_cons (Calls.Constant_str (Calls.spliced_cons (wpAny_mono (h A env e F _ E (k.step S₁)) (fun v s₂ q => ?_) fun _ _ e => e)))
  obtain ⟨F₂, S₂, r₂⟩ := q
  have k₂ := (k.step S₁).step S₂
  refine Calls.spliced_nil ?_
  refine wpAny_newObj_type ?_ (by show 2 ≤ sizeLine; decide)
  have up : ∀ b o, F₂ b = some o → F₂.add s₂.heap.objs.size (tobj [.str a s.toks, v] 0) b = some o := fun b o e => (if_neg (by rintro rfl; exact nomatch (size_none s₂.heap).symm.trans (k₂.g.sub _ _ e))).trans e
  exact PV.from (S₁.trans S₂) (k₂.g.push (o := tobj [.str a s.toks, v] 0) (t := s₂.toks) rfl ⟨_, _, rfl, ⟨0, Fz.add_self⟩, _, _, rfl, ⟨_, rfl⟩, _, _, rfl, r₂.mono up, rfl⟩)
end
end Mine

set_option autoImplicit false
set_option linter.all false
set_option genSizeOf false
set_option genInjectivity false
set_option maxRecDepth 100000
namespace Mine
open PySem PyProof.Rows PySem.W
/-! ## more expressions -/
section
variable {G : Gl} {K : Sx} {ρ : List V} {σ : Ow} {e l m r : PySem.Expr} {x y z : V} {p q : Pos} {b c : Bool} {i j k' : Int} {a : List Nat}
theorem ev_gint {n : Str} (h : ∃ t, G.mg n = some (.int i t)) (hg : globOK K n = true := by decide +kernel) : Ev G K ρ σ (.Name n p) (.int i) := fun A env F s E k => h.elim fun t h => name_global k (.inl h) hg (pv_same k ⟨t, rfl⟩)
theorem ev_chain {o₁ o₂ : CmpOp} (h1 : Ev G K ρ σ l x) (h2 : Ev G K ρ σ m y) (h3 : Ev G K ρ σ r z) (c1 : Cm G o₁ x y b) (c2 : Cm G o₂ y z c) (hm : lastMarks [o₁, o₂] [m, r] = false := by with_unfolding_all rfl) : Ev G K ρ σ (.Compare l [o₁, o₂] [m, r] p) (.bool (b && c)) := fun A env F s E k =>
  Compare_chain (h1.bind k fun v F₁ s₁ S₁ r₁ k₁ => chain_link (h2.bind k₁ fun w F₂ s₂ S₂ r₂ k₂ => c1 A F₂ s₂ E v w _ k₂.rm (r₁.mono S₂.up) r₂ (wpAny_truthy_bool (by
    cases b
    · rw [if_neg Bool.false_ne_true]; exact ⟨F₂, S₁.trans S₂, rfl⟩
    · rw [if_pos rfl]
      refine chain_last (h3.bind k₂ fun u F₃ s₃ S₃ r₃ k₃ => ?_)
      exact c2 A F₃ s₃ E w u _ k₃.rm (r₂.mono S₃.up) r₃ ⟨F₃, (S₁.trans S₂).trans S₃, rfl⟩)))) hm
theorem ev_ord {c : Nat} (h1 : Ev G K ρ σ e (.str [c])) (hs : notStar e = true := by rfl) (hg : globOK K "ord" = true := by decide +kernel) : Ev G K ρ σ (.Call (.Name "ord" q) [e] [] p) (.int c) :=
  ev_cb 8 rfl hg (by rw [List.all_cons, hs]; rfl) (evl_cons h1 evl_nil) fun A env F s E vs k r => by
    obtain ⟨v, rfl, t, rfl⟩ := rel1 r
    exact P.ord_of_char (pv_tok k.rm _ ⟨_, rfl⟩)
theorem bools_get {F : Fz} : ∀ {bs : List Bool} {vs : List Value}, RelL F (bs.map .bool) vs → vs = bs.map .bool
  | [], _, rfl => rfl
  | _ :: _, _, ⟨_, _, rfl, rfl, r⟩ => congrArg _ (bools_get r)
theorem ev_all {bs : List Bool} (h1 : Ev G K ρ σ e (.lst (bs.map .bool))) (hs : notStar e = true := by rfl) (hg : globOK K "all" = true := by decide +kernel) : Ev G K ρ σ (.Call (.Name "all" q) [e] [] p) (.bool (bs.all id)) :=
  ev_cb 9 rfl hg (by rw [List.all_cons, hs]; rfl) (evl_cons h1 evl_nil) fun A env F s E vs k r => by
    obtain ⟨v, rfl, r'⟩ := rel1 r
    obtain ⟨a, us, rfl, ⟨n, ha⟩, rl⟩ := r'
    cases bools_get rl
    have hl : s.heap.IsList a (bs.map Value.bool).toArray := ⟨_, k.rm.sub _ _ ha, rfl, n, rfl⟩
    have hne : a ≠ s.heap.objs.size := by rintro rfl; exact nomatch (size_none s.heap).symm.trans (k.rm.sub _ _ ha)
    refine call_all_walk (wpAny_pyIter_list hl ⟨_, _, _, _, _, _, fun i => bs.getD i true, rfl, Walks.list (by simp [k.rm.handled]) _ a hne _, ⟨⟨_, Heap.get?_push_size _ rfl, rfl, rfl⟩, hl.push _⟩, fun i v s' Q E' hv hQ => ?_, fun h' tk hk => ?_⟩)
    · have hv : bs[i]?.map Value.bool = some v := by simpa using hv
      obtain ⟨b, hb, rfl⟩ := Option.map_eq_some_iff.mp hv
      have hQ : Q (bs.getD i true) s' := hQ
      rw [List.getD_eq_getElem?_getD, hb] at hQ
      exact wpAny_truthy_bool hQ
    · have e : ((List.range (bs.map Value.bool).toArray.size).all fun i => bs.getD i true) = bs.all id := by
        rw [List.size_toArray, List.length_map, Bool.eq_iff_iff, List.all_eq_true, List.all_eq_true]
        constructor
        · intro h b hb
          obtain ⟨i, hi, rfl⟩ := List.getElem_of_mem hb
          have := h i (List.mem_range.mpr hi)
          rwa [List.getD_eq_getElem?_getD, List.getElem?_eq_getElem hi] at this
        · intro h i hi
          have hi := List.mem_range.mp hi
          rw [List.getD_eq_getElem?_getD, List.getElem?_eq_getElem hi]
          exact h _ (List.getElem_mem hi)
      rw [e]
      refine ⟨F, .grow (t := tk) k.rm.sub fun b o eb => hk b o ?_ (Heap.get?_push_of_some _ eb), rfl⟩
      rw [List.mem_singleton]; rintro rfl; exact nomatch (size_none s.heap).symm.trans eb
theorem ev_pow (h1 : Ev G K ρ σ l (.int i)) (h2 : Ev G K ρ σ r (.int j)) (hn : 0 ≤ j) (hn2 : j ≤ 1000000) (ha : i.natAbs < 2 ^ 64) : Ev G K ρ σ (.BinOp l .Pow r p) (.int (i ^ j.toNat)) :=
  ev_bin h1 h2 <| by rintro A F s E _ _ R ⟨_, rfl⟩ ⟨_, rfl⟩; exact pow_int_small hn hn2 ha (pv_tok R _ ⟨_, rfl⟩)
def isDict (_ : Addr) (o : Obj) (_ : Addr) (_ : Obj) : Prop := o.cls = .type "dict"
theorem ev_dict : Ev G K ρ σ (.Dict [] [] p) (.obj isDict) := fun A env F s E k =>
  wpAny_Dict_empty (pv_push (t := s.toks) k.rm { cls := .type "dict", data := .dict #[] } ⟨_, _, _, _, rfl, Fz.add_self, Fz.add_self, rfl⟩ rfl)
theorem is_dict_str : Inst G "str" (.obj isDict) false := by rintro A F s E _ R ⟨_, _, _, _, rfl, h, _, hc⟩; exact IsiPair.dict_str (R.sub _ _ h) hc (pv_tok R _ rfl)
theorem cm_eq_bool : Cm G .Eq (.bool b) (.bool c) (b == c) := by rintro A F s E _ _ R _ rfl rfl h; exact PySem.EqBoolInt.of_rc (SeqAt.RcAt.bool_bool b c) h
theorem cm_ne_bool : Cm G .NotEq (.bool b) (.bool c) (!(b == c)) := by rintro A F s E _ _ R _ rfl rfl h; exact PySem.EqBoolInt.of_rcne (SeqAt.RcNeAt.bool_bool b c) h
end
end Mine

set_option autoImplicit false
set_option linter.all false
set_option maxRecDepth 100000
namespace Mine
open PySem PySem.W PyProof.Rows
abbrev PP : Program := PySem.Challenge.pw_uf020025_02
def stA (k : Nat) : Stmt := PP.main.body.getD k (.Pass default)
def fB : Stmt → List Stmt
  | .FunctionDef _ _ b _ _ _ _ _ _ _ => b
  | _ => []
def fS : Stmt → Scope
  | .FunctionDef _ _ _ _ _ _ s _ _ _ => s
  | _ => default
def cB : Stmt → List Stmt
  | .ClassDef _ _ _ b _ _ _ _ _ _ _ => b
  | _ => []
def K_wall : Sx := ⟨fS (stA 0), ["k"]⟩
abbrev B_wall : List Stmt := fB (stA 0)
abbrev A_wall (G : Gl) : Prop := FnAt G.B G.mg "_wall" K_wall 1 B_wall
def K_is_sign : Sx := ⟨fS (stA 6), ["sign", "place"]⟩
abbrev B_is_sign : List Stmt := fB (stA 6)
abbrev A_is_sign (G : Gl) : Prop := FnAt G.B G.mg "is_sign" K_is_sign 1 B_is_sign
def K_is_name : Sx := ⟨fS (stA 7), ["thing"]⟩
abbrev B_is_name : List Stmt := fB (stA 7)
abbrev A_is_name (G : Gl) : Prop := FnAt G.B G.mg "is_name" K_is_name 1 B_is_name
def K_rest : Sx := ⟨fS (stA 8), ["name", "beginning"]⟩
abbrev B_rest : List Stmt := fB (stA 8)
abbrev A_rest (G : Gl) : Prop := FnAt G.B G.mg "rest" K_rest 2 B_rest
def K_gather : Sx := ⟨fS (stA 13), ["tree", "text", "pairs", "sign", "below"]⟩
abbrev B_gather : List Stmt := fB (stA 13)
abbrev A_gather (G : Gl) : Prop := FnAt G.B G.mg "gather" K_gather 3 B_gather
def K_names : Sx := ⟨fS (stA 14), ["tree", "pairs"]⟩
abbrev B_names : List Stmt := fB (stA 14)
abbrev A_names (G : Gl) : Prop := FnAt G.B G.mg "names" K_names 1 B_names
def K_under : Sx := ⟨fS (stA 16), ["tree", "beginning"]⟩
abbrev B_under : List Stmt := fB (stA 16)
abbrev A_under (G : Gl) : Prop := FnAt G.B G.mg "under" K_under 2 B_under
def K_need_name : Sx := ⟨fS (stA 18), ["thing"]⟩
abbrev B_need_name : List Stmt := fB (stA 18)
abbrev A_need_name (G : Gl) : Prop := FnAt G.B G.mg "need_name" K_need_name 1 B_need_name
def K_Trail_init : Sx := ⟨fS ((cB (stA 19)).getD 0 (.Pass default)), ["self"]⟩
abbrev B_Trail_init : List Stmt := fB ((cB (stA 19)).getD 0 (.Pass default))
def K_Trail_become : Sx := ⟨fS ((cB (stA 19)).getD 1 (.Pass default)), ["self", "after_it"]⟩
abbrev B_Trail_become : List Stmt := fB ((cB (stA 19)).getD 1 (.Pass default))
def K_Trail_need_under : Sx := ⟨fS ((cB (stA 19)).getD 2 (.Pass default)), ["self", "beginning"]⟩
abbrev B_Trail_need_under : List Stmt := fB ((cB (stA 19)).getD 2 (.Pass default))
def K_Trail_need_short : Sx := ⟨fS ((cB (stA 19)).getD 3 (.Pass default)), ["self", "beginning", "other"]⟩
abbrev B_Trail_need_short : List Stmt := fB ((cB (stA 19)).getD 3 (.Pass default))
def K_Trail_keep : Sx := ⟨fS ((cB (stA 19)).getD 4 (.Pass default)), ["self", "name", "number"]⟩
abbrev B_Trail_keep : List Stmt := fB ((cB (stA 19)).getD 4 (.Pass default))
def K_Trail_drop : Sx := ⟨fS ((cB (stA 19)).getD 5 (.Pass default)), ["self", "name"]⟩
abbrev B_Trail_drop : List Stmt := fB ((cB (stA 19)).getD 5 (.Pass default))
def K_Trail_prune : Sx := ⟨fS ((cB (stA 19)).getD 6 (.Pass default)), ["self", "beginning"]⟩
abbrev B_Trail_prune : List Stmt := fB ((cB (stA 19)).getD 6 (.Pass default))
def K_Trail_move : Sx := ⟨fS ((cB (stA 19)).getD 7 (.Pass default)), ["self", "beginning", "other"]⟩
abbrev B_Trail_move : List Stmt := fB ((cB (stA 19)).getD 7 (.Pass default))
def K_Trail_graft : Sx := ⟨fS ((cB (stA 19)).getD 8 (.Pass default)), ["self", "beginning", "other"]⟩
abbrev B_Trail_graft : List Stmt := fB ((cB (stA 19)).getD 8 (.Pass default))
def K_Trail_back : Sx := ⟨fS ((cB (stA 19)).getD 9 (.Pass default)), ["self"]⟩
abbrev B_Trail_back : List Stmt := fB ((cB (stA 19)).getD 9 (.Pass default))
def K_Trail_told : Sx := ⟨fS ((cB (stA 19)).getD 10 (.Pass default)), ["self", "beginning"]⟩
abbrev B_Trail_told : List Stmt := fB ((cB (stA 19)).getD 10 (.Pass default))
def K_Trail_tree : Sx := ⟨fS ((cB (stA 19)).getD 11 (.Pass default)), ["self"]⟩
abbrev B_Trail_tree : List Stmt := fB ((cB (stA 19)).getD 11 (.Pass default))
def K_Trail_size : Sx := ⟨fS ((cB (stA 19)).getD 12 (.Pass default)), ["self"]⟩
abbrev B_Trail_size : List Stmt := fB ((cB (stA 19)).getD 12 (.Pass default))
def K_law_cell_at : Sx := ⟨fS (stA 21), ["_law_script", "_law_k"]⟩
abbrev B_law_cell_at : List Stmt := fB (stA 21)
abbrev A_law_cell_at (G : Gl) : Prop := FnAt G.B G.mg "_law_cell_at" K_law_cell_at 2 B_law_cell_at
def K_law_sign_by : Sx := ⟨fS (stA 22), ["_law_cell", "_law_some"]⟩
abbrev B_law_sign_by : List Stmt := fB (stA 22)
abbrev A_law_sign_by (G : Gl) : Prop := FnAt G.B G.mg "_law_sign_by" K_law_sign_by 1 B_law_sign_by
def K_law_word_by : Sx := ⟨fS (stA 23), ["_law_cell", "_law_size", "_law_made", "_law_number", "_law_k"]⟩
abbrev B_law_word_by : List Stmt := fB (stA 23)
abbrev A_law_word_by (G : Gl) : Prop := FnAt G.B G.mg "_law_word_by" K_law_word_by 2 B_law_word_by
def K_law_refused : Sx := ⟨fS (stA 24), ["_law_thing", "e"]⟩
abbrev B_law_refused : List Stmt := fB (stA 24)
abbrev A_law_refused (G : Gl) : Prop := FnAt G.B G.mg "_law_refused" K_law_refused 1 B_law_refused
def K_law_other : Sx := ⟨fS (stA 25), ["_law_cell"]⟩
abbrev B_law_other : List Stmt := fB (stA 25)
abbrev A_law_other (G : Gl) : Prop := FnAt G.B G.mg "_law_other" K_law_other 1 B_law_other
def K_law : Sx := ⟨fS (stA 26), ["_law_script", "_law_size", "_law_word", "_law_due", "_law_at", "_law_way", "_law_told", "_law_thing"]⟩
abbrev B_law : List Stmt := fB (stA 26)
abbrev A_law (G : Gl) : Prop := FnAt G.B G.mg "law" K_law 1 B_law
end Mine

set_option autoImplicit false
set_option linter.all false
set_option maxRecDepth 100000
namespace Mine
open PySem PySem.W PyProof.Rows
/-! ## a Trail: made, then only asked -/
structure TrailAt (G : Gl) (C N : Addr) (mN : Str → Option Value) (fI fT : Addr) : Prop where
  bound : G.mg "Trail" = some (.ref C)
  cls : ClsAt G.B C N mN
  q1 : mN "__setattr__" = none
  q2 : mN "__getattribute__" = none
  q3 : mN "__getattr__" = none
  q4 : mN "kept" = none
  q5 : mN "past" = none
  i1 : mN "__init__" = some (.ref fI)
  i2 : ∃ o, G.B.get? fI = some o ∧ o.cls = .type "function"
  i3 : FnO G.B fI K_Trail_init 1 B_Trail_init
  t1 : mN "told" = some (.ref fT)
  t2 : ∃ o, G.B.get? fT = some o ∧ o.cls = .type "function"
  t3 : FnO G.B fT K_Trail_told 2 B_Trail_told
theorem no_kept : typeLookup (.type "object") "kept" = pure none := by rw [typeLookup_type, builtinLookup_eq_fast]; kernel_rfl
theorem no_past : typeLookup (.type "object") "past" = pure none := by rw [typeLookup_type, builtinLookup_eq_fast]; kernel_rfl
theorem no_told : typeLookup (.type "object") "told" = pure none := by rw [typeLookup_type, builtinLookup_eq_fast]; kernel_rfl
def instP (C : Addr) (x : Addr) (o : Obj) (d : Addr) (od : Obj) : Prop := o.cls = .ref C ∧ o.dict = some d ∧ d ≠ x ∧ (∀ c, o.data ≠ .cls c) ∧ ∃ mA, (∀ h : Heap, h.get? d = some od → h.Ns1 d mA) ∧ mA "kept" = some .none ∧ mA "told" = none
theorem instP.inst {C x : Addr} {o : Obj} {d : Addr} {od : Obj} (h : instP C x o d od) {hp : Heap} (hx : hp.get? x = some o) (hd : hp.get? d = some od) : ∃ mA, hp.Inst x C mA ∧ mA "kept" = some .none ∧ mA "told" = none := by
  obtain ⟨h1, h2, h3, h4, mA, h5, h6, h7⟩ := h
  exact ⟨mA, ⟨o, hx, h1, h4, .inr ⟨d, h2, h3, h5 hp hd⟩⟩, h6, h7⟩
section
variable {G : Gl} {C N : Addr} {mN : Str → Option Value} {fI fT : Addr}
/-- an object with its dict -/
structure In (h : Heap) (x dx C : Addr) (mA : Str → Option Value) : Prop where
  obj : ∃ o, h.get? x = some o ∧ o.cls = .ref C ∧ (∀ c, o.data ≠ .cls c) ∧ o.dict = some dx
  ne : dx ≠ x
  ns : h.Ns1 dx mA
theorem In.inst {h : Heap} {x dx C : Addr} {mA : Str → Option Value} (i : In h x dx C mA) : h.Inst x C mA := i.obj.imp fun _ q => ⟨q.1, q.2.1, q.2.2.1, .inr ⟨dx, q.2.2.2, i.ne, i.ns⟩⟩
theorem In.step {x dx C : Addr} {mA : Str → Option Value} {F F' : Fz} {s s' : Shared} (i : In s.heap x dx C mA) (S : St N0 F s F' s') : In s'.heap x dx C mA := by
  obtain ⟨o, h1, h2, h3, h4⟩ := i.obj
  obtain ⟨o', e, k⟩ := S.keepO x o h1 id
  refine ⟨⟨o', e, ?_⟩, i.ne, ?_⟩
  · rcases k with rfl | ⟨_, sl, rfl⟩
    · exact ⟨h2, h3, h4⟩
    · exact ⟨h2, h3, h4⟩
  · obtain ⟨od, es, ep, ho, hd, r⟩ := i.ns
    obtain ⟨od', e', k'⟩ := S.keepO dx od ho id
    exact ⟨od', es, ep, e', k'.data.trans hd, r⟩
theorem In.of {h h' : Heap} {x dx C : Addr} {mA mA' : Str → Option Value} (i : In h x dx C mA) (I : h'.Inst x C mA') (hs : ∀ o₀, h.get? x = some o₀ → ∃ o₁, h'.get? x = some o₁ ∧ o₁.cls = o₀.cls ∧ o₁.data = o₀.data ∧ o₁.slots = o₀.slots ∧ ∀ dx, o₀.dict = some dx → o₁.dict = some dx) : In h' x dx C mA' := by
  obtain ⟨o, h1, h2, h3, h4⟩ := i.obj
  obtain ⟨o₁, e, g1, g2, _, g4⟩ := hs o h1
  obtain ⟨o₂, e₂, _, _, I₂⟩ := I
  cases e.symm.trans e₂
  have hd := g4 dx h4
  refine ⟨⟨o₁, e, g1.trans h2, fun c => g2 ▸ h3 c, hd⟩, i.ne, ?_⟩
  rcases I₂ with ⟨hn, _⟩ | ⟨d', hd', _, ns⟩
  · exact nomatch hd.symm.trans hn
  · cases hd.symm.trans hd'; exact ns
theorem St.privs {D D' : Addr → Prop} {F₀ F : Fz} {s₀ s : Shared} {h' : Heap} {t : Nat} (S : St D F₀ s₀ F s) (hD : ∀ q, D' q → F q = none ∧ s₀.heap.get? q = none) (up : ∀ b o, ¬ D' b → s.heap.get? b = some o → h'.get? b = some o) : St D F₀ s₀ F { s with heap := h', toks := t } :=
  have ne : ∀ b o, s₀.heap.get? b = some o → ¬ D' b := fun b o e h => nomatch (hD b h).2.symm.trans e
  ⟨S.up, fun a o e => up a o (fun h => nomatch (hD a h).1.symm.trans e) (S.sub a o e), fun b o e d => (S.keepO b o e d).imp fun o' q => ⟨up b o' (ne b o e) q.1, q.2⟩, fun b o e => (S.live b o e).imp fun o' e' => ⟨up b o' (ne b o e) e'.1, e'.2⟩, S.new, by rw [S.rest]⟩
theorem trail_new (T : TrailAt G C N mN fI fT) {A : Around} {F : Fz} {s : Shared} {E : Value → Shared → Prop} (R : Rm G A F s) (hd : 3 ≤ G.d) : wpAny G.M A (call (.ref C) []) (PV F s (.obj (instP C))) E s := by
  obtain ⟨hh, g, d, t, os⟩ := s
  have X := T.cls.keeps R.in
  obtain ⟨nm, q, bs, sn, sub, col, dd, k0, k1, k2, k3, k5, hC⟩ := X.obj
  obtain ⟨oI, hI, hIc⟩ := T.i2
  refine wpAny_call_obj_init PySem.F.objNew hC X.ns T.i1 (R.in _ _ hI) hIc fun h' x dx Mk => ?_
  have S₀ : St N0 F ⟨hh, g, d, t, os⟩ F ⟨h', g, d, t, os⟩ := .grow (s := ⟨hh, g, d, t, os⟩) (t := t) R.sub Mk.keeps
  have out : ∀ {a : Addr}, hh.get? a = none → F a = none := fun {a} e => R.out e
  have R' : Rm G.dn (A.under (.builtin "type.__call__" ⟨[.ref C], []⟩)) F ⟨h', g, d, t, os⟩ := by
    have R₁ := R.step S₀
    refine ⟨⟨R.go.g, R.go.b, R.go.nolimit, R.go.blt⟩, R.base, R₁.sub, ?_, ?_, R₁.handled, R₁.frames⟩
    · have := R.depth; show A.depth + 1 + (G.d - 1) ≤ recursionLimit; omega
    · have := R.units
      have hu : (Code.builtin "type.__call__" ⟨[.ref C], []⟩).cUnits ≤ 10 := by first | exact Nat.le_of_ble_eq_true rfl | (simp [Code.cUnits]; done) | (unfold Code.cUnits; split <;> decide)
      show A.units + (Code.builtin "type.__call__" ⟨[.ref C], []⟩).cUnits + 10 * (G.d - 1) + 100 ≤ cLine
      omega
  obtain ⟨ox, hx, hxc, hxn, hxd⟩ := id Mk.inst
  have hxdx := Mk.dict ox hx
  have hxC : x ≠ C := by rintro rfl; exact nomatch Mk.newX.symm.trans hC
  refine wpAny_call (enter_core (G := G.dn) (σ := σ0) (xs := [.ref x]) T.i3 rfl (by show 0 < G.d - 1; omega) R' ⟨_, _, rfl, rfl, rfl⟩ (fun _ _ q => nomatch q) fun env s₁ k₁ S₁ hown hnf => ?_)
  have apart : ∀ q, q = x ∨ q = dx → F q = none ∧ hh.get? q = none := by
    rintro q (rfl | rfl)
    · exact ⟨out Mk.newX, Mk.newX⟩
    · exact ⟨out Mk.newD, Mk.newD⟩
  have I₀ : In h' x dx C fun _ => none := by
    obtain ⟨o, e, c, n, r⟩ := Mk.inst
    have hd := Mk.dict o e
    rcases r with ⟨hn, _⟩ | ⟨d', hd', ne, ns⟩
    · exact nomatch hd.symm.trans hn
    · cases hd.symm.trans hd'; exact ⟨⟨o, e, c, n, hd⟩, ne, ns⟩
  have ldx : ∃ o, h'.get? dx = some o := I₀.ns.imp fun _ q => q.elim fun _ q => q.elim fun _ q => q.1
  have dm : ∀ q, q = x ∨ q = dx → F q = none ∧ ¬ Own env q ∧ NoFr ((A.under (.builtin "type.__call__" ⟨[.ref C], []⟩)).deeper env) q := by
    have nf : ∀ q, hh.get? q = none → NoFr (A.under (.builtin "type.__call__" ⟨[.ref C], []⟩)) q := fun q e => (show NoFr A q from R.nofr fun o es n e' => nomatch e.symm.trans e')
    rintro q (rfl | rfl)
    · exact ⟨out Mk.newX, fun ho => (nomatch (hown _ ho).symm.trans hx), hnf _ _ hx (nf _ Mk.newX)⟩
    · exact ⟨out Mk.newD, fun ho => ldx.elim fun _ e => (nomatch (hown _ ho).symm.trans e), ldx.elim fun _ e => hnf _ _ e (nf _ Mk.newD)⟩
  have keep : ∀ {h₁ h₂ : Heap} {m₁ : Str → Option Value}, In h₁ x dx C m₁ → (∀ b o, b ≠ x → (∀ o₀ dx, h₁.get? x = some o₀ → o₀.dict = some dx → b ≠ dx) → h₁.get? b = some o → h₂.get? b = some o) → ∀ b o, ¬ (b = x ∨ b = dx) → h₁.get? b = some o → h₂.get? b = some o := fun i hk b o hb e => hk b o (fun h => hb (.inl h)) (fun o₀ d' h1 h2 => by
    obtain ⟨o, e', _, _, e''⟩ := i.obj
    cases h1.symm.trans e'; cases h2.symm.trans e''
    exact fun h => hb (.inr h)) e
  have I₁ := I₀.step S₁
  have S01 := S₀.trans S₁
  refine wpAny_execs_cons (plainObj_wpAny_Assign_Attribute (by
    rw [eval_Constant]
    refine wpAny_pure (name_var (G := G.dn.dn) k₁.e (i := 0) (x := .ref x) rfl rfl (by decide +kernel) fun v r => ?_)
    cases show v = .ref x from r
    obtain ⟨h₁, g₁, d₁, t₁, os₁⟩ := s₁
    have C₁ := T.cls.keeps (show ∀ b o, G.B.get? b = some o → h₁.get? b = some o from k₁.e.rm.in)
    obtain ⟨nm, q, bs, sn, sub, col, dd, k0, k1, k2, k3, k5, hC₁⟩ := C₁.obj
    refine store_attr (ns := []) PySem.F.store_object hC₁ C₁.ns T.q1 T.q4 no_kept hxC I₁.inst (fun h₂ tk I₂' hk hsame => ?_) (fun y h => absurd rfl h) (Nat.zero_le _)
    have I₂ := I₁.of I₂' hsame
    have up₂ := keep I₁ hk
    have k₂ := k₁.others (t := tk) (σ' := σ0) dm up₂ (fun _ _ q => nomatch q)
    have S02 := S01.privs (t := tk) apart up₂
    refine wpAny_execs_cons (plainObj_wpAny_Assign_Attribute (List_ (Calls.spliced_nil (wpAny_newObj_type ?_ (Nat.zero_le _)))) rfl)
    have S₃ : St N0 F ⟨h₂, g₁, d₁, tk, os₁⟩ F ⟨h₂.push (lobj [] 0), g₁, d₁, tk, os₁⟩ := .grow (s := ⟨h₂, g₁, d₁, tk, os₁⟩) (t := tk) k₂.e.rm.sub fun _ _ e => Heap.get?_push_of_some _ e
    have k₃ := k₂.step S₃
    have I₃ := I₂.step S₃
    refine name_var (G := G.dn.dn) k₃.e (i := 0) (x := .ref x) rfl rfl (by decide +kernel) fun v r => ?_
    cases show v = .ref x from r
    have C₃ := T.cls.keeps (show ∀ b o, G.B.get? b = some o → (h₂.push (lobj [] 0)).get? b = some o from k₃.e.rm.in)
    obtain ⟨nm, q, bs, sn, sub, col, dd, k0, k1, k2, k3, k5, hC₃⟩ := C₃.obj
    refine store_attr (ns := ["kept"]) PySem.F.store_object hC₃ C₃.ns T.q1 T.q5 no_past hxC I₃.inst (fun h₄ tk₄ I₄' hk₄ hsame₄ => wpAny_execs_nil ?_) (fun y h => ?_) (by decide)
    · have I₄ := I₃.of I₄' hsame₄
      have S04 := (S02.trans S₃).privs (t := tk₄) apart (keep I₃ hk₄)
      obtain ⟨o₄, e₄, c₄, n₄, d₄⟩ := I₄.obj
      obtain ⟨od, es, ep, hd, hdd, hk⟩ := I₄.ns
      have S5 := S04.freeze Mk.newX e₄ (out Mk.newX)
      have hne : F.add x o₄ dx = none := (if_neg I₄.ne).trans (out Mk.newD)
      have S6 := S5.freeze Mk.newD hd hne
      refine ⟨rfl, _, S6, x, o₄, dx, od, rfl, (if_neg I₄.ne.symm).trans (if_pos rfl), if_pos rfl, c₄, d₄, I₄.ne, n₄, _, fun h e => ⟨od, es, ep, e, hdd, hk⟩, ?_, ?_⟩
      · rfl
      · rfl
    · rcases Classical.em (y = "kept") with rfl | hy
      · exact List.mem_cons_self ..
      · exact absurd (if_neg hy) h) rfl)
variable {K : Sx} {ρ : List V} {σ : Ow}
theorem ev_trail {p q : Pos} (T : TrailAt G C N mN fI fT) (hd : 3 ≤ G.d) (hg : globOK K "Trail" = true := by decide +kernel) : Ev G K ρ σ (.Call (.Name "Trail" q) [] [] p) (.obj (instP C)) := fun A env F s E k =>
  wpAny_Call_NameR (name_global k (.inl T.bound) hg (callWith_cls0 T.cls k.rm.in (trail_new T k.rm hd)))
theorem ev_kept {n : Str} {p q : Pos} (T : TrailAt G C N mN fI fT) (h1 : Ev G K ρ σ (.Name n q) (.obj (instP C))) : Ev G K ρ σ (.Attribute (.Name n q) "kept" p) .none := fun A env F s E k =>
  Attribute_any_ (h1.bind k fun v F₁ s₁ S₁ r₁ k₁ => by
    obtain ⟨x, o, d, od, rfl, hx, hd, hp⟩ := r₁
    obtain ⟨mA, I, h1, _⟩ := hp.inst (k₁.rm.sub _ _ hx) (k₁.rm.sub _ _ hd)
    have X := T.cls.keeps k₁.rm.in
    obtain ⟨nm, q, bs, sn, sub, col, dd, k0, k1, k2, k3, k5, hC⟩ := X.obj
    have fin : PV F s .none .none { s₁ with toks := s₁.toks + 1 } := PV.from S₁ (pv_tok k₁.rm _ rfl)
    obtain ⟨hh, g, d, t, os⟩ := s₁
    exact load_attr hC X.ns T.q2 T.q4 no_kept I h1 rfl fin)
theorem told_core {A : Around} {env : Env} {F : Fz} {s : Shared} {E : Value → Shared → Prop} {Q : Value → Shared → Prop} {b e : PySem.Expr} {ap p : Pos} {y : V} (T : TrailAt G C N mN fI fT) (k : EOk G K A env ρ σ F s) (h1 : Ev G K ρ σ b (.obj (instP C))) (h2 : Ev G K ρ σ e y)
    (fin : ∀ F₂ s₂ vs, St N0 F s F₂ s₂ → EOk G K A env ρ σ F₂ s₂ → RelL F₂ [.obj (instP C), y] vs → wpAny G.M A (call (.ref fT) vs) Q E s₂) (hn : ∀ n env t, attributeBase b n env t = t) (hl : (ap.endLine == p.line) = true) (hs : notStar e = true) : wpAny G.M A (eval (.Call (.Attribute b "told" ap) [e] [] p) env) Q E s := by
  rw [arm_eval_Call]
  rw [hn]
  refine wpAny_bind (h1.bind k fun v F₁ s₁ S₁ r₁ k₁ => wpAny_bind (wpAny_standAt ?_))
  rw [back_star p env (es := [e]) (by rw [List.all_cons, hs]; rfl)]
  have hform : methodCallForm (1 + ([] : List Keyword).length) ([e].map fun e => (false, eval e env)) (backToKw p (keywordEach [] env)) = true := rfl
  have hpos : methodCallPos true b env ap p = pure p := by unfold methodCallPos; simp [hl]
  unfold methodCall
  show wpAny G.M A (do let x ← _; _) _ _ _
  rw [show ([e].length + ([] : List Keyword).length) = 1 + ([] : List Keyword).length from rfl, hform]
  obtain ⟨x, o, d, od, rfl, hx, hd, hp⟩ := id r₁
  obtain ⟨mA, I, _, h7⟩ := hp.inst (k₁.rm.sub _ _ hx) (k₁.rm.sub _ _ hd)
  have X := T.cls.keeps k₁.rm.in
  obtain ⟨nm, q, bs, sn, sub, col, dd, k0, k1, k2, k3, k5, hC⟩ := X.obj
  obtain ⟨of, hof, hfc⟩ := T.t2
  obtain ⟨⟨of', fd, hof', hfd, _⟩, _⟩ := id T.t3
  have hin := k₁.rm.in
  have next : wpAny G.M A (callWith p (.ref fT) [.ref x] ([e].map fun e => (false, eval e env)) []) Q E s₁ := Calls.callWith_function (evalArgs_list (all_false [e] env) (Calls.spliced_cons (h2.bind k₁ fun w F₂ s₂ S₂ r₂ k₂ => Calls.spliced_nil ⟨⟨k₂.rm.in _ _ hof', hfd⟩, fin F₂ s₂ [.ref x, w] (S₁.trans S₂) k₂ ⟨_, _, rfl, r₁.mono S₂.up, _, _, rfl, r₂, rfl⟩⟩)))
  obtain ⟨hh, g, d, t, os⟩ := s₁
  exact wpAny_bind (wpAny_holding (method_of hC X.ns T.q2 T.q3 T.t1 (hin _ _ hof) hfc no_told I h7 (wpAny_bind (wpAny_of_eq hpos next))))
theorem ev_told {b e : PySem.Expr} {ap p : Pos} {y z : V} (T : TrailAt G C N mN fI fT) (h1 : Ev G K ρ σ b (.obj (instP C))) (h2 : Ev G K ρ σ e y) (run : ∀ A F s E vs, Rm G A F s → RelL F [.obj (instP C), y] vs → wpAny G.M A (call (.ref fT) vs) (PV F s z) E s)
    (hn : ∀ n env t, attributeBase b n env t = t := by intros; rfl) (hl : (ap.endLine == p.line) = true := by rfl) (hs : notStar e = true := by rfl) : Ev G K ρ σ (.Call (.Attribute b "told" ap) [e] [] p) z := fun A env F s E k =>
  told_core T k h1 h2 (fun F₂ s₂ vs S k₂ r => wp_from S (run A F₂ s₂ E vs k₂.rm r)) hn hl hs
theorem wr_told {b e : PySem.Expr} {ap p pe : Pos} {y : V} {X : Addr} {ss : List Stmt} (T : TrailAt G C N mN fI fT) (h1 : Ev G K ρ σ b (.obj (instP C))) (h2 : Ev G K ρ σ e y) (run : ∀ A F s vs, Rm G A F s → RelL F [.obj (instP C), y] vs → wpAny G.M A (call (.ref fT) vs) (fun _ _ => False) (PE A F s X) s)
    (hn : ∀ n env t, attributeBase b n env t = t := by intros; rfl) (hl : (ap.endLine == p.line) = true := by rfl) (hs : notStar e = true := by rfl) : WR G K (.Expr (.Call (.Attribute b "told" ap) [e] [] p) pe :: ss) ρ σ X :=
  wr_here fun A env F s k => wpAny_Expr_any (told_core T k.e h1 h2 (fun F₂ s₂ vs S k₂ r => wpAny_mono (run A F₂ s₂ vs k₂.rm r) (fun _ _ q => q.elim) fun _ _ q => (px_of_pe (k.step S) q).from S.lk) hn hl hs) (by unfold interactive; rw [k.e.kind]; rfl) rfl
end
end Mine

set_option autoImplicit false
set_option linter.all false
set_option maxRecDepth 100000
namespace Mine
open PySem PySem.W PyProof.Rows
/-! ## small things -/
def lit (s : String) : List Nat := s.toList.map Char.toNat
theorem szL : sizeLine = 16777216 := rfl
theorem lt62 {n : Nat} (h : n ≤ sizeLine) : n < 2 ^ 62 := Nat.lt_of_le_of_lt h (by decide)
theorem nn62 (n : Nat) : -(2 ^ 62) ≤ (n : Int) := by first | exact Nat.le_trans (by decide) hd | exact Nat.le_trans (by decide) hG | lia | omega
theorem il62 {n : Nat} (h : n < 2 ^ 62) : (n : Int) < 2 ^ 62 := by first | exact Nat.le_trans (by decide) hd | exact Nat.le_trans (by decide) hG | lia | omega
theorem n0 (n : Nat) : 0 ≤ (n : Int) := Int.natCast_nonneg n
theorem sz0 : 0 ≤ sizeLine := by decide
theorem sz1 : 1 ≤ sizeLine := by decide
theorem sz2 : 2 ≤ sizeLine := by decide
theorem sz3 : 3 ≤ sizeLine := by decide
theorem rng_get {n i : Nat} {x : V} (h : ((List.range ((n : Int) - 0).toNat).map fun (i : Nat) => V.int (0 + (i : Int)))[i]? = some x) : i < n ∧ x = .int i := by
  have hi : i < n := by have := (List.getElem?_eq_some_iff.mp h).1; simpa using this
  simp [List.getElem?_range hi] at h
  exact ⟨hi, h.symm⟩
theorem rng_len (n : Nat) : ((List.range ((n : Int) - 0).toNat).map fun (i : Nat) => V.int (0 + (i : Int))).length = n := by simp
theorem emod_lt {c m : Int} (h : 0 < m) (h2 : m < 2 ^ 62) : c % m < 2 ^ 62 := Int.lt_trans (Int.emod_lt_of_pos c h) h2
theorem emod_nn (c : Int) {m : Int} (h : 0 < m) : 0 ≤ c % m := Int.emod_nonneg c (Int.ne_of_gt h)
theorem pick2 (c a b : Int) : [V.int a, V.int b][(c % 2).toNat]? = some (.int (if c % 2 = 0 then a else b)) := by
  rcases Int.emod_two_eq c with e | e <;> rw [e] <;> rfl
theorem Ev.to {G : Gl} {K : Sx} {ρ : List V} {σ : Ow} {e : PySem.Expr} {x y : V} (h : Ev G K ρ σ e x) (hx : x = y) : Ev G K ρ σ e y := hx ▸ h
section
variable {G : Gl}
theorem c_cell_at (FA : A_law_cell_at G) {zs : List Int} (hz : zs.length ≤ 63) {k : Int} (hk : 0 ≤ k) (hd : 0 < G.d) : Pure G "_law_cell_at" [.scr (zs.map .int), .int k] (.int (zs.getD k.toNat 0)) := by
  refine pure_of FA rfl hd (ws_if (tr_cmp (ev_var 1 rfl) (ev_lenc (ev_var 0 rfl) (by rw [List.length_map]; (first | lia | omega))) cm_lt) (fun h => ?_) (fun h => ?_))
  · have h := of_decide_eq_true h
    rw [List.length_map] at h
    refine ws_ret (ev_idxc (ev_var 0 rfl) (ev_var 1 rfl) hk (by first | exact Nat.le_trans (by decide) hd | exact Nat.le_trans (by decide) hG | lia | omega) ?_) (.id _)
    have hn : k.toNat < zs.length := by first | exact Nat.le_trans (by decide) hd | exact Nat.le_trans (by decide) hG | lia | omega
    rw [List.getElem?_map, List.getElem?_eq_getElem hn, List.getD_eq_getElem?_getD, List.getElem?_eq_getElem hn]; rfl
  · have h := of_decide_eq_false h
    rw [List.length_map] at h
    refine ws_nil (ws_ret ev_int ?_)
    rw [List.getD_eq_getElem?_getD, List.getElem?_eq_none (by first | exact Nat.le_trans (by decide) hd | exact Nat.le_trans (by decide) hG | lia | omega)]; exact .id _
def nxt (n : Int) : Int := (n * 48271 + 11) % 2147483647
def signs : List Nat := lit " !\"#$&'()*+,-./0123456789:;<=>?@ABCDEFGHIJKLMNOPQRSTUVWXYZ[\\]^_`" ++ lit "abcdefghijklmnopqrstuvwxyz{|}~"
theorem signs_length : signs.length = 94 := by decide +kernel
def signBy (c : Int) : Nat := signs.getD (c % 94).toNat 0
def wordGo (c : Int) : Nat → Int → List Nat → Int × List Nat
  | 0, n, w => (n, w)
  | k + 1, n, w => let r := wordGo c k n w; (nxt r.1, r.2 ++ [signBy (65 + nxt r.1 / 7 % (if c % 2 = 0 then 2 else 94))])
def wordBy (c : Int) (n : Nat) : List Nat := (wordGo c n c []).2
theorem wordGo_len (c : Int) : ∀ (k : Nat) (n : Int) (w : List Nat), (wordGo c k n w).2.length = w.length + k
  | 0, _, _ => rfl
  | k + 1, n, w => by show (_ ++ [_]).length = _; rw [List.length_append, wordGo_len c k]; rfl
theorem wordBy_len (c : Int) (n : Nat) : (wordBy c n).length = n := by unfold wordBy; rw [wordGo_len]; exact Nat.zero_add _
theorem c_sign_by (FA : A_law_sign_by G) {c : Int} (hd : 0 < G.d) : Pure G "_law_sign_by" [.int c] (.str [signBy c]) := by
  refine pure_of FA rfl hd (ws_asg 1 ev_str (ws_asg 1 (ev_adds (ev_var 1 rfl) ev_str (by decide +kernel)) ?_))
  refine ws_ret (x := .str [signs.getD (c % 94).toNat 0]) (ev_idxs (a := signs) (ev_var 1 (by kernel_rfl)) (ev_mod (ev_var 0 rfl) ev_int (by decide)) (emod_nn c (by decide)) ?_ ?_) (.id _)
  · rw [signs_length]; exact Int.emod_lt_of_pos c (by decide)
  · rw [signs_length]; decide
theorem c_word_by (FA : A_law_word_by G) (FS : A_law_sign_by G) {c : Int} {n : Nat} (hn : n ≤ 1000) (hd : 1 < G.d) : Pure G "_law_word_by" [.int c, .int n] (.str (wordBy c n)) := by
  refine pure_of FA rfl (by first | exact Nat.le_trans (by decide) hd | exact Nat.le_trans (by decide) hG | lia | omega) (ws_asg 2 ev_str (ws_asg 3 (ev_var 0 rfl) ?_))
  refine ws_for (fun i ρ σ => ∃ kv, ρ = [.int c, .int n, .str (wordGo c i c []).2, .int (wordGo c i c []).1, kv] ∧ σ = σ0) (ev_range1 (ev_var 1 rfl) (nn62 n) (by first | exact Nat.le_trans (by decide) hd | exact Nat.le_trans (by decide) hG | lia | omega)) rfl ⟨.unb, rfl, rfl⟩ ?_ ?_
  · rintro i ρ σ y hy ⟨kv, rfl, rfl⟩
    obtain ⟨hi, rfl⟩ := rng_get hy
    refine ⟨_, asg_name 4, ws_asg 3 (ev_mod (ev_add (ev_mul (ev_var 3 rfl) ev_int (.of_right (by decide))) ev_int) ev_int (by decide)) (ws_asg 2 ?_ (ws_nil ⟨_, rfl, rfl⟩))⟩
    refine ev_adds (ev_var 2 rfl) (ev_call (c_sign_by (G := G.dn) FS (by first | exact dl hd | exact dl0 hd | (show 0 < G.d - 1; first | lia | omega))) (evl_cons (ev_add ev_int (ev_mod (ev_fdiv (ev_var 3 rfl) ev_int (by decide) (by decide)) (ev_idxl (ev_list (evl_cons ev_int (evl_cons ev_int evl_nil)) sz2) (ev_mod (ev_var 0 rfl) ev_int (by decide)) (emod_nn c (by decide)) (emod_lt (by decide) (by decide)) (pick2 c _ _)) (by split <;> decide))) evl_nil)) ?_
    rw [wordGo_len, szL]; show 0 + i + 1 ≤ _; (first | lia | omega)
  · rintro ρ σ ⟨kv, rfl, rfl⟩
    rw [rng_len]
    exact ws_ret (ev_var 2 rfl) (.id _)
end
end Mine

set_option autoImplicit false
set_option linter.all false
set_option maxRecDepth 100000
namespace Mine
open PySem PySem.W PyProof.Rows
/-! ## law 02: is_name -/
structure C02 (G : Gl) : Prop where
  is_sign : A_is_sign G
  is_name : A_is_name G
  rest : A_rest G
  gather : A_gather G
  names : A_names G
  under : A_under G
  need_name : A_need_name G
  cell : A_law_cell_at G
  sign : A_law_sign_by G
  word : A_law_word_by G
  refused : A_law_refused G
  other : A_law_other G
  nn : ∃ C, XC G "NoName" C
  te : ∃ T, XC G "TrailError" T
  mro : mroAt G.mg G.B "NoName" "TrailError"
  ve : G.mg "ValueError" = none ∧ G.mb "ValueError" = some (.type "ValueError")
  most : ∃ t, G.mg "MOST_SIGNS" = some (.int 40 t)
  blank : ∃ t, G.mg "BLANK" = some (.int 32 t)
  percent : ∃ t, G.mg "PERCENT" = some (.int 37 t)
  tilde : ∃ t, G.mg "TILDE" = some (.int 126 t)
  trail : ∃ C N mN fI fT, TrailAt G C N mN fI fT
theorem TrailAt.dn {G : Gl} {C N : Addr} {mN : Str → Option Value} {fI fT : Addr} (T : TrailAt G C N mN fI fT) : TrailAt G.dn C N mN fI fT := ⟨T.bound, T.cls, T.q1, T.q2, T.q3, T.q4, T.q5, T.i1, T.i2, T.i3, T.t1, T.t2, T.t3⟩
theorem C02.dn {G : Gl} (C : C02 G) : C02 G.dn := ⟨C.is_sign, C.is_name, C.rest, C.gather, C.names, C.under, C.need_name, C.cell, C.sign, C.word, C.refused, C.other, C.nn, C.te, C.mro, C.ve, C.most, C.blank, C.percent, C.tilde, C.trail.imp fun _ q => q.imp fun _ q => q.imp fun _ q => q.imp fun _ q => q.imp fun _ q => q.dn⟩
def okS (c : Nat) : Bool := (decide ((32 : Int) ≤ c) && decide ((c : Int) ≤ 126)) && !((c : Int) == 37)
def okN (w : List Nat) : Bool := decide (w.length ≤ 40) && w.all okS
theorem slice_hi {α : Type} (xs : List α) {i : Int} (h : 0 ≤ i) : slice xs none (some i) = xs.take i.toNat := by
  unfold slice clampI
  simp only [if_neg (Int.not_lt.mpr h), List.drop_zero]
  rw [Nat.min_def]; split
  · rfl
  · rw [List.take_of_length_le (Nat.le_refl _), List.take_of_length_le (by first | exact Nat.le_trans (by decide) hd | exact Nat.le_trans (by decide) hG | lia | omega)]
theorem slice_lo {α : Type} (xs : List α) {i : Int} (h : 0 ≤ i) : slice xs (some i) none = xs.drop i.toNat := by
  unfold slice clampI
  simp only [if_neg (Int.not_lt.mpr h), List.take_length]
  rw [Nat.min_def]; split
  · rfl
  · rw [List.drop_of_length_le (Nat.le_refl _), List.drop_of_length_le (by first | exact Nat.le_trans (by decide) hd | exact Nat.le_trans (by decide) hG | lia | omega)]

/-- no text -/
inductive Kd : V → Prop
  | int (i : Int) : Kd (.int i)
  | none : Kd .none
  | bool (b : Bool) : Kd (.bool b)
  | lst (xs : List V) : Kd (.lst xs)
  | tup (xs : List V) : Kd (.tup xs)
  | dict : Kd (.obj isDict)
theorem Kd.ok {x : V} (h : Kd x) : x.ok = true := by cases h <;> rfl
theorem Kd.inst {G : Gl} {x : V} (h : Kd x) : Inst G "str" x false := by
  cases h
  · exact is_int_str
  · exact is_none_str
  · exact is_bool_str
  · exact is_lst_str
  · exact is_tup_str
  · exact is_dict_str
section
variable {G : Gl}
theorem Tr.to {G : Gl} {K : Sx} {ρ : List V} {σ : Ow} {e : PySem.Expr} {b c : Bool} (h : Tr G K ρ σ e b) (hb : b = c) : Tr G K ρ σ e c := hb ▸ h
theorem c_is_sign (C : C02 G) {c : Nat} (hd : 0 < G.d) : Pure G "is_sign" [.str [c]] (.bool (okS c)) :=
  pure_of C.is_sign rfl hd (ws_asg 1 (ev_ord (ev_var 0 rfl)) (ws_ret (ev_bop (evb_and (ev_chain (ev_gint (G := G.dn) C.blank) (ev_var 1 rfl) (ev_gint (G := G.dn) C.tilde) cm_le cm_le) fun _ => evb_one (ev_cmp (ev_var 1 rfl) (ev_gint (G := G.dn) C.percent) cm_nei))) (.id _)))
theorem c_is_name (C : C02 G) {w : List Nat} (hw : w.length ≤ 1000) (hd : 2 ≤ G.d) : Pure G "is_name" [.str w] (.bool (okN w)) := by
  have e : (w.filterMap fun c => some (V.bool (okS c))) = (w.map okS).map .bool := by rw [List.filterMap_eq_map', List.map_map]; rfl
  refine pure_of C.is_name rfl (by omega) (ws_if (tr_bop (trl_or (tr_not (tr_ev (ev_inst 10 is_str_str (ev_var 0 rfl)))) fun _ => trl_one (tr_cmp (ev_lens (ev_var 0 rfl) (by omega)) (ev_gint (G := G.dn) C.most) cm_gt))) (fun h => ws_ret ev_bool ?_) fun h => ws_nil (ws_ret (ev_all (Ev.to (ev_comp (caps := []) (Fv := fun c : Nat => V.str [c]) (ts := w) (fun c => some (V.bool (okS c))) (ev_var 0 rfl) rfl (by rw [szL]; omega) (fun c hc => turn_all (ev_call (c_is_sign (G := G.dn) C.dn (by show 0 < G.d - 1; omega)) (evl_cons (ev_var 0 rfl) evl_nil)))) (congrArg V.lst e))) ?_))
  · have h : (40 : Int) < w.length := by simpa using h
    show Res _ (.bool false) (.bool (okN w))
    unfold okN
    rw [decide_eq_false (by omega : ¬ w.length ≤ 40)]; exact .id _
  · have h : ¬ (40 : Int) < w.length := by simpa using h
    show Res _ (.bool ((w.map okS).all id)) (.bool (okN w))
    unfold okN
    rw [decide_eq_true (by omega : w.length ≤ 40), List.all_map]; exact .id _
theorem c_is_no (C : C02 G) {x : V} (h : Kd x) (hd : 2 ≤ G.d) : Pure G "is_name" [x] (.bool false) :=
  pure_of C.is_name rfl (by omega) (ws_if (tr_bop (trl_or (c := false) (tr_not (tr_ev (ev_inst 10 h.inst (ev_var 0 rfl h.ok)))) fun h => nomatch h)) (fun _ => ws_ret ev_bool (.id _)) fun h => nomatch h)
theorem c_need_name (C : C02 G) {x : V} (hx : x.ok = true) (h : Pure G.dn "is_name" [x] (.bool true)) (hd : 2 ≤ G.d) : Pure G "need_name" [x] .none :=
  pure_of C.need_name rfl (by omega) (ws_if (tr_not (tr_ev (ev_call h (evl_cons (ev_var 0 rfl hx) evl_nil)))) (fun h => nomatch h) fun _ => ws_nil (ws_nil (by exact rfl)))
theorem z_need_name (C : C02 G) {X : Addr} (hX : XC G "NoName" X) {x : V} (hx : x.ok = true) (h : Pure G.dn "is_name" [x] (.bool false)) (hd : 2 ≤ G.d) : Rz G "need_name" [x] X :=
  rz_of C.need_name rfl (by omega) (wr_if (tr_not (tr_ev (ev_call h (evl_cons (ev_var 0 rfl hx) evl_nil)))) (fun _ => wr_raise hX) fun h => nomatch h)
theorem c_names0 (C : C02 G) (hd : 2 ≤ G.d) : Pure G "names" [.none] (.lst []) :=
  pure_of C.names rfl (by omega) (ws_new 1 fun a _ => ws_proc (acc' := []) (proc_of (G := G.dn) C.gather rfl (by show 0 < G.d - 1; omega) (xs := [.none, .str [], .ref a]) (ws_if (tr_cmp (ev_var 0 rfl) ev_none cm_is_none) (fun _ => ws_retN (Ow.set_self ..)) fun h => nomatch h)) (evl_cons (ev_var 0 rfl) (evl_cons (ev_lit []) (evl_cons (ev_var 1 rfl) evl_nil))) (Ow.set_self ..) (ws_ret (ev_var 1 rfl) (.frz (Ow.set_self ..))))
theorem c_under0 (C : C02 G) {w : List Nat} (hd : 4 ≤ G.d) : Pure G "under" [.none, .str w] (.lst []) :=
  pure_of C.under rfl (by omega) (ws_ret (ev_comp (caps := [1]) (Fv := RowV) (ts := ([] : List Row)) (fun r => some (RowV r)) (ev_call (c_names0 (G := G.dn) C.dn (by show 2 ≤ G.d - 1; omega)) (evl_cons (ev_var 0 rfl) evl_nil)) rfl (Nat.zero_le _) (fun r hr => nomatch hr)) (.id _))
section
variable {D N : Addr} {mN : Str → Option Value} {fI fT : Addr}
theorem told_ok (C : C02 G) (T : TrailAt G D N mN fI fT) {w : List Nat} (hw : w.length ≤ 1000) (h : okN w = true) (hd : 8 ≤ G.d) : ∀ A F s E vs, Rm G A F s → RelL F [.obj (instP D), .str w] vs → wpAny G.M A (call (.ref fT) vs) (PV F s (.lst [])) E s := fun A F s E vs k r => by
  have hn := c_is_name (G := G.dn.dn) C.dn.dn hw (by show 2 ≤ G.d - 1 - 1; omega)
  rw [h] at hn
  refine wpAny_mono (pureO_of (P := (· = .lst [])) T.t3 (xs := [.obj (instP D), .str w]) rfl (by omega) (ws_expr (ev_call (c_need_name (G := G.dn) C.dn rfl hn (by show 2 ≤ G.d - 1; omega)) (evl_cons (ev_var 1 rfl) evl_nil)) (ws_ret (ev_call (c_under0 (G := G.dn) C.dn (by show 4 ≤ G.d - 1; omega)) (evl_cons (ev_kept (G := G.dn) T.dn (ev_var 0 rfl)) (evl_cons (ev_var 1 rfl) evl_nil))) ⟨_, .id _, rfl⟩)) A F s E vs k r) (fun _ _ q => q.elim fun _ q => q.1 ▸ q.2) fun _ _ e => e
theorem told_no (C : C02 G) (T : TrailAt G D N mN fI fT) {X : Addr} (hX : XC G "NoName" X) {x : V} (hx : x.ok = true) (h : Pure G.dn.dn "is_name" [x] (.bool false)) (hd : 8 ≤ G.d) : ∀ A F s vs, Rm G A F s → RelL F [.obj (instP D), x] vs → wpAny G.M A (call (.ref fT) vs) (fun _ _ => False) (PE A F s X) s :=
  rzO_of T.t3 rfl (by omega) (wr_call (z_need_name (G := G.dn) C.dn hX hx h (by show 2 ≤ G.d - 1; omega)) (evl_cons (ev_var 1 rfl hx) evl_nil))
end
theorem c_refused_no (C : C02 G) {w : List Nat} (hw : w.length ≤ 1000) (h : okN w = true) (hd : 12 ≤ G.d) : Pure G "_law_refused" [.str w] (.bool false) := by
  obtain ⟨D, N, mN, fI, fT, T⟩ := C.trail
  exact pure_of C.refused rfl (by omega) (ws_try_ok (ws_expr (ev_told (G := G.dn) T.dn (ev_trail (G := G.dn) T.dn (by show 3 ≤ G.d - 1; omega)) (ev_var 0 rfl) (told_ok (G := G.dn) C.dn T.dn hw h (by show 8 ≤ G.d - 1; omega))) (ws_nil (ws_ret ev_bool (.id _)))))
theorem c_refused_yes (C : C02 G) {x : V} (hx : x.ok = true) (h : Pure G.dn.dn.dn "is_name" [x] (.bool false)) (hd : 12 ≤ G.d) : Pure G "_law_refused" [x] (.bool true) := by
  obtain ⟨D, N, mN, fI, fT, T⟩ := C.trail
  obtain ⟨X, hX⟩ := C.nn
  obtain ⟨E, hE⟩ := C.te
  exact pure_of C.refused rfl (by omega) (ws_try (wr_told (G := G.dn) T.dn (ev_trail (G := G.dn) T.dn (by show 3 ≤ G.d - 1; omega)) (ev_var 0 rfl hx) (told_no (G := G.dn) C.dn T.dn hX hx h (by show 8 ≤ G.d - 1; omega))) hX (suite_ret (es_both (G := G.dn) hX hE C.mro C.ve)) fun _ _ => .id _)
theorem c_other (C : C02 G) {c : Int} (hd : 2 ≤ G.d) : PureP G "_law_other" [.int c] Kd := by
  have hj : ∃ j : Nat, c % 6 = j ∧ j < 6 := ⟨(c % 6).toNat, by omega, by omega⟩
  obtain ⟨j, ej, hj⟩ := hj
  have hz : ∃ z, [V.int (c % 10 ^ (60 : Int).toNat), .none, .bool true, .lst [.str [signBy c]], .tup [], .obj isDict][j]? = some z ∧ Kd z := by
    match j, hj with
    | 0, _ => exact ⟨_, rfl, .int _⟩
    | 1, _ => exact ⟨_, rfl, .none⟩
    | 2, _ => exact ⟨_, rfl, .bool _⟩
    | 3, _ => exact ⟨_, rfl, .lst _⟩
    | 4, _ => exact ⟨_, rfl, .tup _⟩
    | 5, _ => exact ⟨_, rfl, .dict⟩
  obtain ⟨z, hz, hk⟩ := hz
  exact purep_of C.other rfl (by omega) (ws_ret (ev_idxl (i := j) (ev_list (evl_cons (ev_mod (ev_var 0 rfl) (ev_pow ev_int ev_int (by decide) (by decide) (by decide)) (by decide +kernel)) (evl_cons ev_none (evl_cons ev_bool (evl_cons (ev_list (evl_cons (ev_call (c_sign_by (G := G.dn) C.sign (by show 0 < G.d - 1; omega)) (evl_cons (ev_var 0 rfl) evl_nil)) evl_nil) sz1) (evl_cons (ev_tuple evl_nil sz0) (evl_cons ev_dict evl_nil)))))) (by show 6 ≤ sizeLine; decide)) ((ev_mod (ev_var 0 rfl) ev_int (by decide)).to (by rw [ej])) (n0 j) (by omega) hz) ⟨_, .id _, hk⟩)
theorem sign_okS (c : Int) : okS (signBy c) = true := by
  have : ∀ x ∈ signs, okS x = true := by decide +kernel
  refine this _ ?_
  unfold signBy
  have h : (c % 94).toNat < signs.length := by rw [signs_length]; omega
  rw [List.getD_eq_getElem?_getD, List.getElem?_eq_getElem h]
  exact List.getElem_mem h
theorem wordGo_okS (c : Int) : ∀ (k : Nat) (n : Int) (w : List Nat), w.all okS = true → (wordGo c k n w).2.all okS = true
  | 0, _, _, h => h
  | k + 1, n, w, h => by
    show (_ ++ [_]).all okS = true
    rw [List.all_append, wordGo_okS c k n w h, List.all_cons, sign_okS]; rfl
theorem law02 (C : C02 G) (hG : 600 ≤ G.d) {zs : List Int} (hz : zs.length ≤ 63) : WS G K_law B_law (.scr (zs.map .int) :: List.replicate (K_law.ns.length - 1) .unb) σ0 (retQ (.bool true)) := by
  have c0 := c_cell_at C.cell hz (k := 0) (by decide) (by omega)
  have c1 := c_cell_at C.cell hz (k := 1) (by decide) (by omega)
  have c2 := c_cell_at C.cell hz (k := 2) (by decide) (by omega)
  have c3 := c_cell_at C.cell hz (k := 3) (by decide) (by omega)
  generalize zs.getD (0 : Int).toNat 0 = a0 at c0
  generalize zs.getD (1 : Int).toNat 0 = a1 at c1
  generalize zs.getD (2 : Int).toNat 0 = a2 at c2
  generalize zs.getD (3 : Int).toNat 0 = a3 at c3
  refine ws_asg 1 (ev_mod (ev_call c0 (evl_cons (ev_var 0 rfl) (evl_cons ev_int evl_nil))) ev_int (by decide)) ?_
  refine ws_ifm (fun ρ σ => ∃ n : Nat, n ≤ 42 ∧ ρ = [.scr (zs.map .int), .int n, .unb, .unb, .unb, .unb, .unb, .unb]) (tr_cmp (ev_mod (ev_fdiv (ev_call c0 (evl_cons (ev_var 0 rfl) (evl_cons ev_int evl_nil))) ev_int (by decide) (by decide)) ev_int (by decide)) ev_int cm_eqi) (fun _ => ws_asg 1 ((ev_sub ev_int (ev_var 1 rfl)).to (y := .int ((42 - a0 % 8).toNat : Nat)) (by congr 1; omega)) (ws_nil ⟨_, by omega, rfl⟩)) (fun _ => ws_nil ⟨(a0 % 8).toNat, by omega, ?_⟩) ?_
  · show [V.scr (zs.map .int), V.int (a0 % 8), .unb, .unb, .unb, .unb, .unb, .unb] = _
    rw [Int.toNat_of_nonneg (by omega)]
  rintro ρ σ ⟨n, hn, rfl⟩
  have hwl := wordBy_len a1 n
  have hwo : (wordBy a1 n).all okS = true := wordGo_okS a1 n a1 [] rfl
  refine ws_asg 2 (ev_call (c_word_by C.word C.sign (c := a1) (n := n) (by omega) (by omega)) (evl_cons (ev_call c1 (evl_cons (ev_var 0 rfl) (evl_cons ev_int evl_nil))) (evl_cons (ev_var 1 rfl) evl_nil))) ?_
  generalize wordBy a1 n = w at hwl hwo
  refine ws_asg 3 (ev_cmp (ev_var 1 rfl) ev_int cm_le) (ws_asg 4 (ev_mod (ev_fdiv (ev_call c2 (evl_cons (ev_var 0 rfl) (evl_cons ev_int evl_nil))) ev_int (by decide) (by decide)) (ev_add (ev_var 1 rfl) ev_int) (by omega)) (ws_asg 5 (ev_mod (ev_call c2 (evl_cons (ev_var 0 rfl) (evl_cons ev_int evl_nil))) ev_int (by decide)) ?_))
  refine ws_ifm (fun ρ σ => ∃ (w : List Nat) (u v : V), w.length ≤ 100 ∧ ρ = [.scr (zs.map .int), .int n, .str w, .bool (okN w), u, v, .unb, .unb]) (tr_cmp (ev_var 5 rfl) ev_int cm_lt) (fun h => ?_) (fun _ => ws_nil ⟨w, .int (a2 / 12 % ((n : Int) + 1)), .int (a2 % 12), by omega, ?_⟩) ?_
  · have hs : ∃ k : Nat, a2 % 12 % 2 = k ∧ k < 2 := ⟨(a2 % 12 % 2).toNat, by omega, by omega⟩
    obtain ⟨k, ek, hk⟩ := hs
    have hsg : ∃ c : Nat, [V.str [10], V.str [9]][k]? = some (.str [c]) ∧ okS c = false := by
      match k, hk with
      | 0, _ => exact ⟨10, rfl, by decide +kernel⟩
      | 1, _ => exact ⟨9, rfl, by decide +kernel⟩
    obtain ⟨c, hc, hco⟩ := hsg
    have l1 : (slice w none (some (a2 / 12 % ((n : Int) + 1)))).length ≤ 42 := by rw [slice_hi _ (emod_nn _ (by omega)), List.length_take]; omega
    have l2 : (slice w (some (a2 / 12 % ((n : Int) + 1) + a2 % 12 / 2)) none).length ≤ 42 := by rw [slice_lo _ (by have := emod_nn (a2 / 12) (m := (n : Int) + 1) (by omega); omega), List.length_drop]; omega
    refine ws_asg 2 (ev_adds (ev_adds (ev_slc (ev_var 2 rfl) evo_none (evo_some (ev_var 4 rfl)) (by rw [szL]; omega)) (ev_idxl (i := k) (ev_list (evl_cons (ev_lit [10]) (evl_cons (ev_lit [9]) evl_nil)) sz2) ((ev_mod (ev_var 5 rfl) ev_int (by decide)).to (by rw [ek])) (n0 k) (by omega) hc) (by show _ + 1 ≤ _; rw [szL]; omega)) (ev_slc (ev_var 2 rfl) (evo_some (ev_add (ev_var 4 rfl) (ev_fdiv (ev_var 5 rfl) ev_int (by decide) (by decide)))) evo_none (by rw [szL]; omega)) (by rw [List.length_append, szL]; show _ + 1 + _ ≤ _; omega)) (ws_asg 3 ev_bool (ws_nil ⟨slice w none (some (a2 / 12 % ((n : Int) + 1))) ++ [c] ++ slice w (some (a2 / 12 % ((n : Int) + 1) + a2 % 12 / 2)) none, .int (a2 / 12 % ((n : Int) + 1)), .int (a2 % 12), ?_, ?_⟩))
    · rw [List.length_append, List.length_append]; show _ + 1 + _ ≤ _; omega
    · have : okN (slice w none (some (a2 / 12 % ((n : Int) + 1))) ++ [c] ++ slice w (some (a2 / 12 % ((n : Int) + 1) + a2 % 12 / 2)) none) = false := by
        unfold okN
        rw [List.all_append, List.all_append, List.all_cons, hco, Bool.false_and, Bool.and_false, Bool.false_and, Bool.and_false]
      rw [this]; rfl
  · have : decide ((n : Int) ≤ 40) = okN w := by
      unfold okN
      rw [hwo, Bool.and_true, hwl]
      exact decide_eq_decide.mpr (by omega)
    rw [← this]; rfl
  rintro ρ σ ⟨w, u, v, hw, rfl⟩
  have hN : Pure G "is_name" [.str w] (.bool (okN w)) := c_is_name C (by omega) (by omega)
  refine ws_asg 6 (ev_call hN (evl_cons (ev_var 2 rfl) evl_nil)) ?_
  have e3 : ((!true) || (!(okN w == okN w) || !((40 : Int) == 40))) = false := by cases okN w <;> rfl
  refine ws_if (b := false) (Tr.to (tr_bop (trl_or (tr_not (tr_ev (ev_inst 11 is_bool_bool (ev_var 6 rfl)))) fun _ => trl_or (tr_cmp (ev_var 6 rfl) (ev_var 3 rfl) cm_ne_bool) fun _ => trl_one (tr_cmp (ev_gint C.most) ev_int cm_nei))) e3) (fun h => nomatch h) fun _ => ws_nil ?_
  obtain ⟨D, N, mN, fI, fT, T⟩ := C.trail
  have fin : WS G K_law (B_law.drop 10) [.scr (zs.map .int), .int n, .str w, .bool (okN w), u, v, .bool (okN w), .unb] σ (retQ (.bool true)) := by
    refine ws_asgP 7 (c_other C (by omega)) (evl_cons (ev_call c3 (evl_cons (ev_var 0 rfl) (evl_cons ev_int evl_nil))) evl_nil) ?_
    intro z hk
    have hno : ∀ {G' : Gl}, C02 G' → 2 ≤ G'.d → Pure G' "is_name" [z] (.bool false) := fun C' h => c_is_no C' hk h
    exact ws_ret (ev_bop (evb_and (ev_cmp (ev_call (hno C (by omega)) (evl_cons (ev_var 7 rfl hk.ok) evl_nil)) ev_bool cm_is_bool) fun _ => evb_one (ev_call (c_refused_yes C hk.ok (hno C.dn.dn.dn (by show 2 ≤ G.d - 1 - 1 - 1; omega)) (by omega)) (evl_cons (ev_var 7 rfl hk.ok) evl_nil)))) (.id _)
  cases hb : okN w with
  | true =>
    rw [hb] at fin
    refine ws_if (b := false) (Tr.to (tr_bop (trl_or (tr_bop (trl_and (tr_ev (ev_var 3 rfl)) fun _ => trl_one (tr_cmp (ev_told T (ev_trail T (by omega)) (ev_var 2 rfl) (told_ok C T (by omega) hb (by omega))) (ev_list evl_nil sz0) cm_ne_nil))) fun _ => trl_one (tr_cmp (ev_call (c_refused_no C (by omega) hb (by omega)) (evl_cons (ev_var 2 rfl) evl_nil)) (ev_var 3 rfl) cm_eq_bool))) rfl) (fun h => nomatch h) fun _ => ws_nil fin
  | false =>
    rw [hb] at fin
    have hno : Pure G.dn.dn.dn "is_name" [.str w] (.bool false) := hb ▸ c_is_name C.dn.dn.dn (by omega) (by show 2 ≤ G.d - 1 - 1 - 1; omega)
    refine ws_if (b := false) (Tr.to (tr_bop (trl_or (tr_bop (trl_and (c := false) (tr_ev (ev_var (x := .bool false) 3 rfl)) fun h => nomatch h)) fun _ => trl_one (tr_cmp (ev_call (c_refused_yes C rfl hno (by omega)) (evl_cons (ev_var 2 rfl) evl_nil)) (ev_var 3 rfl) cm_eq_bool))) rfl) (fun h => nomatch h) fun _ => ws_nil fin
end
end Mine

set_option autoImplicit false
set_option linter.all false
set_option maxRecDepth 100000
namespace Mine
open PySem PySem.W PyProof.Rows
/-! ## what the top level leaves: constants, the class Trail -/
theorem top_int {p : Program} {loose : List Str} {mean : ExcName → Option Value} {mg mb : Str → Option Value} {h : Heap} (T : Top p loose mean mg mb h) {x : Str} {i : Int} (hv : valOf p x = some (.int i)) : ∃ t, mg x = some (.int i t) := by
  obtain ⟨v, h1, r⟩ := T.const x _ hv
  have := r h
  cases this
  exact ⟨_, h1⟩
def clOf (p : Program) (loose : List Str) : Option ClsRec := (plainsOf p loose).find? fun c => c.name == ("Trail" : Str)
def meOf (p : Program) (loose : List Str) (f : Str) : Option MethRec := match clOf p loose with
  | some c => c.meths.find? fun m => m.name == f
  | none => none
def meB (p : Program) (loose : List Str) (f : Str) : List Stmt := match meOf p loose f with | some m => m.body | none => []
def meS (p : Program) (loose : List Str) (f : Str) : Scope := match meOf p loose f with | some m => m.scope | none => default
def meChk (p : Program) (loose : List Str) (f : Str) (K : Sx) (np : Nat) : Bool := match meOf p loose f with
  | some m => m.params.posonlyargs.isEmpty && (m.params.args.map (·.arg) == K.ns.take np) && m.params.kwonlyargs.isEmpty && m.params.vararg.isNone && m.params.kwarg.isNone && fnChk K np
  | none => false
def trailChk (p : Program) (loose : List Str) : Bool := (match clOf p loose with | some c => c.quiet.contains "kept" && c.quiet.contains "past" | none => false) && meChk p loose "__init__" K_Trail_init 1 && meChk p loose "told" K_Trail_told 2
theorem me_fn {p : Program} {loose : List Str} {h : Heap} {c : ClsRec} {C N : Addr} {mN : Str → Option Value} (hc : clOf p loose = some c) (P : PlainAt h c C N mN) {f : Str} {K : Sx} {np : Nat} {B : List Stmt} (hk : meChk p loose f K np = true) (hs : meS p loose f = K.sc) (hb : meB p loose f = B) :
    ∃ fa, mN f = some (.ref fa) ∧ (∃ o, h.get? fa = some o ∧ o.cls = .type "function") ∧ FnO h fa K np B := by
  unfold meChk at hk
  unfold meS at hs
  unfold meB at hb
  split at hk
  · rename_i m hm
    rw [hm] at hs hb
    have hm' : c.meths.find? (fun m => m.name == f) = some m := by
      have := hm
      unfold meOf at this
      rw [hc] at this
      exact this
    have hn : m.name = f := eq_of_beq (List.find?_some (p := fun m : MethRec => m.name == f) hm')
    obtain ⟨fa, o, pm, cd, doc, h1, h2, h3, h4, h5⟩ := P.meths m (List.mem_of_find?_eq_some hm')
    simp only [Bool.and_eq_true, List.isEmpty_iff, Option.isNone_iff_eq_none, beq_iff_eq] at hk
    obtain ⟨⟨⟨⟨⟨k1, k2⟩, k3⟩, k4⟩, k5⟩, k6⟩ := hk
    have k7 := k6
    unfold fnChk at k7
    simp only [Bool.and_eq_true, decide_eq_true_eq] at k7
    refine ⟨fa, hn ▸ h1, ⟨o, h2, h3⟩, ⟨o, _, h2, h4, h5, congrArg _ hb, rfl, rfl, rfl, fun vs hl => ?_, hs⟩, k6⟩
    exact bind_simple k1 k2 k3 k4 k5 rfl (k7.1.2.sublist (List.take_sublist ..)) (by rw [List.length_take, Nat.min_eq_left k7.2]; exact hl)
  · cases hk
theorem trail_at {p : Program} {loose : List Str} {mg mb : Str → Option Value} {h : Heap} {prog : Program} {w : World} {d : Nat} (TE : TopE p loose mg h) (hk : trailChk p loose = true) (s1 : meS p loose "__init__" = K_Trail_init.sc) (b1 : meB p loose "__init__" = B_Trail_init) (s2 : meS p loose "told" = K_Trail_told.sc) (b2 : meB p loose "told" = B_Trail_told) :
    ∃ C N mN fI fT, TrailAt ⟨prog, w, h, mg, mb, d⟩ C N mN fI fT := by
  unfold trailChk at hk
  simp only [Bool.and_eq_true] at hk
  obtain ⟨⟨k1, k2⟩, k3⟩ := hk
  split at k1
  · rename_i c hc
    simp only [Bool.and_eq_true, List.contains_iff_mem] at k1
    have hn : c.name = "Trail" := eq_of_beq (List.find?_some (p := fun c : ClsRec => c.name == ("Trail" : Str)) hc)
    obtain ⟨C, N, mN, hm, P'⟩ := TE c (List.mem_of_find?_eq_some hc)
    have P := P'.ofCmp
    obtain ⟨fI, i1, i2, i3⟩ := me_fn hc P k2 s1 b1
    obtain ⟨fT, t1, t2, t3⟩ := me_fn hc P k3 s2 b2
    have q : ∀ n, n ∈ (["__setattr__", "__getattribute__", "__getattr__"] : List Str) → mN n = none := fun n hn => P.quiet n (List.mem_append_left _ hn)
    exact ⟨C, N, mN, fI, fT, hn ▸ hm, P.cls, q _ (by decide), q _ (by decide), q _ (by decide), P.quiet _ k1.1, P.quiet _ k1.2, i1, i2, i3, t1, t2, t3⟩
  · cases k1
end Mine

open PySem PySem.W PyProof.Rows
set_option Elab.async false
set_option maxRecDepth 100000
namespace Mine
theorem fn_of {p : Program} {loose : List Str} {mean : ExcName → Option Value} {mg mb : Str → Option Value} {h : Heap} (T : Top p loose mean mg mb h) {f : Str} {K : Sx} {np : Nat} {B : List Stmt} (hk : recChk p f ⟨K.ns, np⟩ = true) (hs : (match recOf p f with | some d => d.scope | none => default) = K.sc) (hb : bodyOf p f = B) : FnAt h mg f K np B := by
  have := top_fn T hk
  rw [hb] at this
  have e : sxOf p f ⟨K.ns, np⟩ = K := by
    unfold sxOf
    unfold recChk at hk
    split at hk
    · rename_i d hd
      rw [hd] at hs
      cases K; cases hs; rfl
    · cases hk
  rw [e] at this
  exact this
def vw : Program := PySem.W.view PP [0, 2, 3, 4, 5, 6, 7, 8, 10, 11, 13, 14, 16, 18, 19, 21, 22, 23, 24, 25, 26]
def MR : List (Str × Str × Bool) := [("NoName", "TrailError", true)]
theorem left : LeftO PP vw [] (fun s => (MR.all fun p => mroB s p.1 p.2.1 p.2.2) && recOk (RowW.records (OpenRow.toRowW PySem.Challenge.rw_uf020025_02.row)) s) (Hook.obs Hook.none) (Hook.val Hook.none) 6000 := fun w => by kernel_rfl
set_option maxHeartbeats 8000000 in
theorem final : PySem.Challenge.rw_uf020025_02.Holds := by
  w_on
  refine holds_law (by kernel_rfl) fun said => ?_
  refine holds_open (q := vw) (loose := []) (Xt := fun s => (MR.all fun p => mroB s p.1 p.2.1 p.2.2) && recOk (RowW.records (OpenRow.toRowW PySem.Challenge.rw_uf020025_02.row)) s) (XP := MroP MR) (Yf := Hook.obs Hook.none) (Ya := Hook.val Hook.none) (YP := Hook.says Hook.none) (N := 6000) left (Hook.of Hook.none) (Hook.keeps Hook.none) (fun s e => mroP_of (Bool.and_eq_true_iff.mp e).1) MroP.keeps (by rfl) (by rfl) (by rfl) (fun s e => recFacts_of (Bool.and_eq_true_iff.mp e).2) (by rfl) (by first | assumption | decide +kernel) (by decide +kernel) ⟨rfl, rfl, rfl, rfl, rfl, by decide +kernel⟩ ?hw ?hc
  (case hw => w_witness2)
  intro w s₀ s₁ mg mb G Y fa o pm cd doc dV kV ho hd' hcd hD hmg hg args vals as hpre hlay hrd hwl hlo
  refine Ground.open G ?_
  intro T B D TE TW
  wrow_args hpre hlay hrd hwl hlo
  all_goals (
    first | refine callC_kw (enter_call ?_) | refine enter_call ?_ | refine callC_kw (enter_callW ?_) | refine enter_callW ?_ | w_how)
  rename_i zs _ _ _ _ _ _ _ a vs _ hL _ _ _ hI _ hlen _
  let Gm : Gl := ⟨PySem.Challenge.rw_uf020025_02.row.prog, w, s₁.heap, mg, mb, 680⟩
  have GO : Gm.Ok := top_gl T (by decide +kernel)
  have ef : Gl.fn Gm "law" = fa := by
    unfold Gl.fn fnA
    have : mg "law" = some (.ref fa) := hmg
    simp only [Gm, this]
  have C : C02 Gm.dn := ⟨fn_of T (by decide +kernel) (by kernel_rfl) (by kernel_rfl), fn_of T (by decide +kernel) (by kernel_rfl) (by kernel_rfl), fn_of T (by decide +kernel) (by kernel_rfl) (by kernel_rfl), fn_of T (by decide +kernel) (by kernel_rfl) (by kernel_rfl), fn_of T (by decide +kernel) (by kernel_rfl) (by kernel_rfl), fn_of T (by decide +kernel) (by kernel_rfl) (by kernel_rfl), fn_of T (by decide +kernel) (by kernel_rfl) (by kernel_rfl), fn_of T (by decide +kernel) (by kernel_rfl) (by kernel_rfl), fn_of T (by decide +kernel) (by kernel_rfl) (by kernel_rfl), fn_of T (by decide +kernel) (by kernel_rfl) (by kernel_rfl), fn_of T (by decide +kernel) (by kernel_rfl) (by kernel_rfl), fn_of T (by decide +kernel) (by kernel_rfl) (by kernel_rfl), top_own T (by kernel_rfl), top_own T (by kernel_rfl), G.X ("NoName", "TrailError", true) (by decide), top_val T (by decide +kernel), top_int T (by kernel_rfl), top_int T (by kernel_rfl), top_int T (by kernel_rfl), top_int T (by kernel_rfl), trail_at TE (by decide +kernel) (by kernel_rfl) (by kernel_rfl) (by kernel_rfl) (by kernel_rfl)⟩
  exact head_ok (G := Gm) (K := K_law) (sts := B_law) GO ef rfl rfl hg hL hI (fun _ => rfl) (law_post _ _) (fn_of T (by decide +kernel) (by kernel_rfl) (by kernel_rfl)) (law02 C (by show 600 ≤ 680 - 1; decide) (by omega))
end Mine

theorem PySem.Challenge.cw_uf020025_02_holds : PySem.Challenge.rw_uf020025_02.Holds :=
  Mine.final
