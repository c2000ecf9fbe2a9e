import PyProof.Rows.All
import Wide.All
import OpenK.AllK
import Wide.FinOn
import PyProof.CallRoads
import PyProof.Calls
import PyProof.Cells
import PyProof.CompFree
import PyProof.Conv_int_bool
import PyProof.EvalArms
import PyProof.ForRange
import PyProof.IsInstanceH
import PyProof.IsRules
import PyProof.IsiHeapPairs
import PyProof.IsiNone
import PyProof.IsiPairs
import PyProof.LetGo
import PyProof.ListIndexNeg
import PyProof.PlainList
import PyProof.PureInt
import PyProof.RaisesMany
import PyProof.RangeFor
import PyProof.Rows.Exc
import PyProof.Rows.Lst
import PyProof.Rows.RuleB_floordiv
import PyProof.Rows.RuleB_mod
import PyProof.Rows.StrSub
import PyProof.Rows.StrTemp
import PyProof.Rows.Tup
import PyProof.Rules3
import PyProof.RulesMatch
import PyProof.Seq
import PyProof.SliceList
import PyProof.SliceMore
import PyProof.SliceStr2
import PyProof.StrBlock
import PyProof.StrBlockI
import PyProof.StrCalls3
import PyProof.StrLaws
import PyProof.StrOps
import PyProof.StrWalks
import PyProof.TupleIter
import PyProof.TupleOfSeq
import PyProof.WalksMore
import PyProof.WalksPairs
import PySem.Challenge.RW_uf020025_03
set_option Elab.async false
set_option maxRecDepth 100000
set_option linter.all false
namespace Mine
open PySem PyProof.Rows

/-! ## abstract values, cells, the abstract heap -/
inductive V where
  | unb | none | bool (b : Bool) | int (i : Int) | str (s : List Nat) | tup (xs : List V) | lst (xs : List V) | ref (a : Addr) | rng (a b : Int) | prim (v : Value)

inductive Cell where
  | list (xs : List V)
  | dict (es : List (V × V))
  | inst (C : Addr) (fs : List (Str × V))
  | aux

abbrev Hp := Addr → Option Cell
def Hp.set (σ : Hp) (a : Addr) (c : Cell) : Hp := fun b => if b = a then some c else σ b
theorem Hp.set_self (σ : Hp) (a : Addr) (c : Cell) : σ.set a c a = some c := if_pos rfl
theorem Hp.set_ne (σ : Hp) {a b : Addr} (c : Cell) (h : b ≠ a) : σ.set a c b = σ b := if_neg h

mutual
inductive Rel (B h : Heap) : Value → V → Prop
  | none : Rel B h .none .none
  | bool (b : Bool) : Rel B h (.bool b) (.bool b)
  | int (i : Int) (t : Tok) : Rel B h (.int i t) (.int i)
  | str (s : List Nat) (t : Tok) : Rel B h (.str ⟨s.toArray⟩ t) (.str s)
  | tup {a : Addr} {vs : List Value} {xs : List V} : IsTup h a vs.toArray → RelL B h vs xs → Rel B h (.ref a) (.tup xs)
  | ref (a : Addr) : Rel B h (.ref a) (.ref a)
  | lst {a : Addr} {vs : List Value} {xs : List V} : B.IsList a vs.toArray → RelL B h vs xs → Rel B h (.ref a) (.lst xs)
  | rng {r : Addr} {a b : Int} {t u v : Tok} : IsRange h r a b 1 t u v → -(2 ^ 62) ≤ a → a < 2 ^ 62 → -(2 ^ 62) ≤ b → b < 2 ^ 62 → Rel B h (.ref r) (.rng a b)
  | prim (v : Value) : Rel B h v (.prim v)
inductive RelL (B h : Heap) : List Value → List V → Prop
  | nil : RelL B h [] []
  | cons {v : Value} {x : V} {vs : List Value} {xs : List V} : Rel B h v x → RelL B h vs xs → RelL B h (v :: vs) (x :: xs)
end

/-- what must stay for the relation to stay -/
def Fixed (o : Obj) : Prop := (o.cls = .type "tuple" ∨ o.cls = .type "range") ∧ (∀ es n, o.data ≠ .dict es n) ∧ ∀ v, o.data ≠ .cell v
theorem fixed_tup {o : Obj} {xs : Array Value} (hc : o.cls = .type "tuple") (hd : ∃ n, o.data = .seq xs n) : Fixed o := by
  obtain ⟨n, hd⟩ := hd
  refine ⟨.inl hc, fun _ _ e => ?_, fun _ e => ?_⟩ <;> (rw [hd] at e; cases e)
def Frozen (h h' : Heap) : Prop := ∀ b o, h.get? b = some o → Fixed o → h'.get? b = some o

mutual
theorem Rel.mono {B h h' : Heap} (k : Frozen h h') : ∀ {v : Value} {x : V}, Rel B h v x → Rel B h' v x
  | _, _, .none => .none
  | _, _, .bool b => .bool b
  | _, _, .int i t => .int i t
  | _, _, .str s t => .str s t
  | _, _, .tup ht hl => .tup (let ⟨o, ho, hc, r⟩ := ht; ⟨o, k _ _ ho (fixed_tup hc r), hc, r⟩) (hl.mono k)
  | _, _, .ref a => .ref a
  | _, _, .lst ht hl => .lst ht (hl.mono k)
  | _, _, .rng hr a b c d => .rng (k _ _ hr ⟨.inr rfl, nofun, nofun⟩) a b c d
  | _, _, .prim v => .prim v
theorem RelL.mono {B h h' : Heap} (k : Frozen h h') : ∀ {vs : List Value} {xs : List V}, RelL B h vs xs → RelL B h' vs xs
  | _, _, .nil => .nil
  | _, _, .cons a b => .cons (a.mono k) (b.mono k)
end

theorem RelL.length {B h : Heap} : ∀ {vs : List Value} {xs : List V}, RelL B h vs xs → vs.length = xs.length
  | _, _, .nil => rfl
  | _, _, .cons _ r => by simp [r.length]
theorem RelL.get {B h : Heap} : ∀ {vs : List Value} {xs : List V} {i : Nat} {x : V}, RelL B h vs xs → xs[i]? = some x → ∃ v, vs[i]? = some v ∧ Rel B h v x
  | _, _, _, _, .nil, e => by simp at e
  | _, _, 0, _, .cons a _, e => by simp at e; subst e; exact ⟨_, rfl, a⟩
  | _, _, i + 1, _, .cons _ r, e => by simpa using r.get (i := i) (by simpa using e)
theorem RelL.append {B h : Heap} : ∀ {vs : List Value} {xs : List V} {vs' : List Value} {xs' : List V}, RelL B h vs xs → RelL B h vs' xs' → RelL B h (vs ++ vs') (xs ++ xs')
  | _, _, _, _, .nil, r => r
  | _, _, _, _, .cons a b, r => .cons a (b.append r)
theorem RelL.take {B h : Heap} : ∀ {vs : List Value} {xs : List V} (n : Nat), RelL B h vs xs → RelL B h (vs.take n) (xs.take n)
  | _, _, 0, _ => by simp; exact .nil
  | _, _, _ + 1, .nil => by simp; exact .nil
  | _, _, n + 1, .cons a b => by simp only [List.take_succ_cons]; exact .cons a (b.take n)
theorem RelL.drop {B h : Heap} : ∀ {vs : List Value} {xs : List V} (n : Nat), RelL B h vs xs → RelL B h (vs.drop n) (xs.drop n)
  | _, _, 0, r => by simpa using r
  | _, _, _ + 1, .nil => by simp; exact .nil
  | _, _, n + 1, .cons _ b => by simp only [List.drop_succ_cons]; exact b.drop n

def RelO (B h : Heap) : Option Value → V → Prop
  | _, .unb => True
  | some v, x => Rel B h v x
  | none, _ => False
theorem RelO.mono {B h h' : Heap} (k : Frozen h h') {ov : Option Value} {x : V} (r : RelO B h ov x) : RelO B h' ov x := by
  cases x <;> cases ov <;> first | exact trivial | exact r.elim | exact Rel.mono k r

def CellRel (B h : Heap) (a : Addr) : Cell → Prop
  | .list xs => ∃ vs : List Value, h.PlainList a vs.toArray ∧ RelL B h vs xs
  | .dict _ => False
  | .inst _ _ => False
  | .aux => ∃ o es n, h.get? a = some o ∧ o.cls = .type "dict" ∧ o.data = .dict es n

/-- the class of a cell's object is neither tuple nor range -/
theorem CellRel.cls {B h : Heap} {a : Addr} {c : Cell} (r : CellRel B h a c) {o : Obj} (ho : h.get? a = some o) : ¬ Fixed o := fun hx => by
  have hx := hx.1
  revert hx
  cases c with
  | list xs =>
    obtain ⟨vs, ⟨n, ho'⟩, _⟩ := r
    rw [ho] at ho'; cases ho'; show ¬ (Value.type "list" = .type "tuple" ∨ Value.type "list" = .type "range"); decide
  | dict _ => exact r.elim
  | inst _ _ => exact r.elim
  | aux =>
    obtain ⟨o', _, _, ho', hc, _⟩ := r
    rw [ho] at ho'; cases ho'; rw [hc]; decide

def KeepO (o o' : Obj) : Prop := o' = o ∨ ((∃ es n, o.data = .dict es n) ∧ ∃ sl, o' = { o with slots := sl })
theorem KeepO.refl (o : Obj) : KeepO o o := .inl rfl
theorem KeepO.trans {a b c : Obj} (x : KeepO a b) (y : KeepO b c) : KeepO a c := by
  rcases x with rfl | ⟨⟨es, n, hd⟩, sl, rfl⟩
  · exact y
  · rcases y with rfl | ⟨_, sl', rfl⟩
    · exact .inr ⟨⟨es, n, hd⟩, sl, rfl⟩
    · exact .inr ⟨⟨es, n, hd⟩, sl', rfl⟩

/-- from one state to a later one: what lies outside the abstract heap stays, and stays outside -/
structure Step (B : Heap) (σ : Hp) (h : Heap) (σ' : Hp) (h' : Heap) : Prop where
  keep : ∀ b o, h.get? b = some o → σ b = none → σ' b = none ∧ ∃ o', h'.get? b = some o' ∧ KeepO o o'
  base : B.StaysIn h → B.StaysIn h'
  dom : ∀ a c, σ a = some c → ∃ c', σ' a = some c'
theorem Step.refl (B : Heap) (σ : Hp) (h : Heap) : Step B σ h σ h := ⟨fun _ o e n => ⟨n, o, e, .refl o⟩, id, fun _ c q => ⟨c, q⟩⟩
theorem Step.trans {B : Heap} {σ₁ σ₂ σ₃ : Hp} {h₁ h₂ h₃ : Heap} (x : Step B σ₁ h₁ σ₂ h₂) (y : Step B σ₂ h₂ σ₃ h₃) : Step B σ₁ h₁ σ₃ h₃ :=
  ⟨fun b o e n => let ⟨n', o', e', k⟩ := x.keep b o e n; let ⟨n'', o'', e'', k'⟩ := y.keep b o' e' n'; ⟨n'', o'', e'', k.trans k'⟩, fun q => y.base (x.base q), fun a c q => let ⟨c', q'⟩ := x.dom a c q; y.dom a c' q'⟩

structure HOk (B : Heap) (σ : Hp) (h : Heap) : Prop where
  cells : ∀ a c, σ a = some c → CellRel B h a c
  fresh : ∀ a c, σ a = some c → B.get? a = none
  base : B.StaysIn h

theorem HOk.none_of {B : Heap} {σ : Hp} {h : Heap} (H : HOk B σ h) {b : Addr} {o : Obj} (e : h.get? b = some o) (hc : Fixed o) : σ b = none := by
  cases q : σ b with
  | none => rfl
  | some c => exact absurd hc ((H.cells b c q).cls e)
theorem Step.frozen {B : Heap} {σ σ' : Hp} {h h' : Heap} (S : Step B σ h σ' h') (H : HOk B σ h) : Frozen h h' := fun b o e hc => by
  obtain ⟨_, o', e', k⟩ := S.keep b o e (H.none_of e hc)
  rcases k with rfl | ⟨⟨es, n, hd⟩, _⟩
  · exact e'
  · exact absurd hd (hc.2.1 es n)
theorem HOk.sub {B : Heap} {σ : Hp} {h : Heap} (H : HOk B σ h) {a : Addr} {o : Obj} (e : B.get? a = some o) : σ a = none := by
  cases q : σ a with
  | none => rfl
  | some c => have := H.fresh a c q; rw [e] at this; cases this
/-- a cell's relation under a change that leaves its own object and the frozen ones -/
theorem CellRel.mono {B h h' : Heap} {a : Addr} {c : Cell} (k : Frozen h h') (same : ∀ o, h.get? a = some o → h'.get? a = some o) (r : CellRel B h a c) : CellRel B h' a c := by
  cases c with
  | list xs => obtain ⟨vs, ⟨n, ho⟩, l⟩ := r; exact ⟨vs, ⟨n, same _ ho⟩, l.mono k⟩
  | dict _ => exact r
  | inst _ _ => exact r
  | aux => obtain ⟨o, es, n, ho, q⟩ := r; exact ⟨o, es, n, same o ho, q⟩

structure St (B : Heap) (σ : Hp) (s : Shared) (σ' : Hp) (s' : Shared) : Prop where
  step : Step B σ s.heap σ' s'.heap
  ok : HOk B σ' s'.heap
  rest : s' = { s with heap := s'.heap, toks := s'.toks }
theorem St.refl {B : Heap} {σ : Hp} {s : Shared} (H : HOk B σ s.heap) : St B σ s σ s := ⟨.refl .., H, rfl⟩
theorem St.trans {B : Heap} {σ₁ σ₂ σ₃ : Hp} {s₁ s₂ s₃ : Shared} (x : St B σ₁ s₁ σ₂ s₂) (y : St B σ₂ s₂ σ₃ s₃) : St B σ₁ s₁ σ₃ s₃ :=
  ⟨x.step.trans y.step, y.ok, by rw [y.rest, x.rest]⟩
/-- the heap stands, tokens alone have gone on -/
theorem St.toks {B : Heap} {σ : Hp} {s : Shared} (H : HOk B σ s.heap) (t : Nat) : St B σ s σ { s with toks := t } := ⟨.refl .., H, rfl⟩
end Mine

set_option autoImplicit false
namespace Mine
open PySem PyProof.Rows

/-! ## built-in names -/
inductive Blt where
  | len | isinst | range1 | range2 | min2 | max1 | int1 | tuple1 | list1 | dict1 | set1 | sorted1 | ord | all | str1 | enum
inductive Mth where
  | startswith | append | pop | get | split | partition | join
def Blt.nm : Blt → Str
  | .len => "len" | .isinst => "isinstance" | .range1 => "range" | .range2 => "range" | .min2 => "min" | .max1 => "max" | .int1 => "int" | .tuple1 => "tuple"
  | .list1 => "list" | .dict1 => "dict" | .set1 => "set" | .sorted1 => "sorted" | .ord => "ord" | .all => "all" | .str1 => "str" | .enum => "enumerate"
def Mth.nm : Mth → Str
  | .startswith => "startswith" | .append => "append" | .pop => "pop" | .get => "get" | .split => "split" | .partition => "partition" | .join => "join"

def Blt.val : Blt → Value
  | .len => .builtin "len" | .isinst => .builtin "isinstance" | .range1 => .type "range" | .range2 => .type "range" | .min2 => .builtin "min" | .max1 => .builtin "max" | .int1 => .type "int" | .tuple1 => .type "tuple"
  | .list1 => .type "list" | .dict1 => .type "dict" | .set1 => .type "set" | .sorted1 => .builtin "sorted" | .ord => .builtin "ord" | .all => .builtin "all" | .str1 => .type "str" | .enum => .type "enumerate"

/-! ## the context of a law, room, frames, environments -/
structure Gl where
  prog : Program
  w : World
  B : Heap
  mg : Str → Option Value
  mb : Str → Option Value
  gl : Str → V
abbrev Gl.M (G : Gl) : Model := model G.prog G.w

structure Gl.Ok (G : Gl) : Prop where
  g : G.B.Ns mainGlobals G.mg
  b : G.B.Ns builtinsNs G.mb
  nolimit : G.B.NoLimit
  gl : ∀ x, G.gl x ≠ .unb → ∃ v, (G.mg x = some v ∨ (G.mg x = none ∧ G.mb x = some v)) ∧ ∀ h, Rel G.B h v (G.gl x)
  blt : ∀ b : Blt, G.mg b.nm = none ∧ G.mb b.nm = some b.val

structure Md where
  d : Nat
  hd : Bool

def FramesOk (B : Heap) (σ : Hp) (h : Heap) (l : List Env) : Prop :=
  ∀ env ∈ l, env.scope.kind ≠ .module ∧ ∃ L o, env.frame = some L ∧ B.get? L = none ∧ σ L = none ∧ h.get? L = some o ∧ ∃ es n, o.data = .dict es n
theorem FramesOk.step {B : Heap} {σ σ' : Hp} {h h' : Heap} {l : List Env} (F : FramesOk B σ h l) (S : Step B σ h σ' h') : FramesOk B σ' h' l := fun env he => by
  obtain ⟨hk, L, o, hf, hB, hσ, ho, es, n, hd⟩ := F env he
  obtain ⟨hσ', o', ho', k⟩ := S.keep L o ho hσ
  refine ⟨hk, L, o', hf, hB, hσ', ho', ?_⟩
  rcases k with rfl | ⟨_, sl, rfl⟩
  · exact ⟨es, n, hd⟩
  · exact ⟨es, n, hd⟩

structure ROk (B : Heap) (m : Md) (A : Around) (σ : Hp) (h : Heap) : Prop where
  depth : A.depth + m.d ≤ recursionLimit
  units : A.units + 10 * m.d + 60 ≤ cLine
  handled : m.hd = true → A.handled = none
  frames : ∃ l, A.frames = some l ∧ FramesOk B σ h l
theorem ROk.step {B : Heap} {m : Md} {A : Around} {σ σ' : Hp} {h h' : Heap} (R : ROk B m A σ h) (S : Step B σ h σ' h') : ROk B m A σ' h' :=
  ⟨R.depth, R.units, R.handled, let ⟨l, a, b⟩ := R.frames; ⟨l, a, b.step S⟩⟩
theorem ROk.room {B : Heap} {m : Md} {A : Around} {σ : Hp} {h : Heap} (R : ROk B m A σ h) : A.units < cLine := by have := R.units; omega

structure EnvOk (env : Env) : Prop where
  kind : env.scope.kind = .function
  globals : env.globals = mainGlobals
  builtins : env.builtins = builtinsNs

structure LOk (B : Heap) (env : Env) (ns : List Str) (ρ : List V) (σ : Hp) (h : Heap) : Prop where
  len : ρ.length = ns.length
  out : σ env.locals = none
  new : B.get? env.locals = none
  vars : ∃ m, h.Ns env.locals m ∧ ∀ (i : Nat) (x : Str) (v : V), ns[i]? = some x → ρ[i]? = some v →
    (env.kindOf x = some .local → RelO B h (m x) v) ∧
    (env.kindOf x = some .cell → ∃ c ov, env.cells.lookup x = some c ∧ h.IsCell c ov ∧ RelO B h ov v ∧ σ c = none ∧ B.get? c = none)

theorem ns_step {B : Heap} {σ σ' : Hp} {h h' : Heap} {L : Addr} {m : Str → Option Value} (S : Step B σ h σ' h') (hn : h.Ns L m) (ho : σ L = none) : h'.Ns L m := by
  obtain ⟨o, es, ep, e, hd, r⟩ := hn
  obtain ⟨_, o', e', k⟩ := S.keep L o e ho
  rcases k with rfl | ⟨_, sl, rfl⟩
  · exact ⟨_, es, ep, e', hd, r⟩
  · exact ⟨_, es, ep, e', hd, r⟩
theorem cell_step {B : Heap} {σ σ' : Hp} {h h' : Heap} {c : Addr} {ov : Option Value} (S : Step B σ h σ' h') (hn : h.IsCell c ov) (ho : σ c = none) : h'.IsCell c ov := by
  obtain ⟨o, e, hd⟩ := hn
  obtain ⟨_, o', e', k⟩ := S.keep c o e ho
  rcases k with rfl | ⟨⟨es, n, q⟩, _⟩
  · exact ⟨_, e', hd⟩
  · rw [hd] at q; cases q

theorem LOk.step {B : Heap} {env : Env} {ns : List Str} {ρ : List V} {σ σ' : Hp} {h h' : Heap} (L : LOk B env ns ρ σ h) (S : Step B σ h σ' h') (H : HOk B σ h) : LOk B env ns ρ σ' h' := by
  obtain ⟨m, hn, r⟩ := L.vars
  obtain ⟨o, _, _, e, _⟩ := id hn
  refine ⟨L.len, (S.keep _ o e L.out).1, L.new, m, ns_step S hn L.out, fun i x v hx hv => ⟨fun hk => ((r i x v hx hv).1 hk).mono (S.frozen H), fun hk => ?_⟩⟩
  obtain ⟨c, ov, hc, hcell, hr, ho, hB⟩ := (r i x v hx hv).2 hk
  obtain ⟨oc, ec, _⟩ := id hcell
  exact ⟨c, ov, hc, cell_step S hcell ho, hr.mono (S.frozen H), (S.keep c oc ec ho).1, hB⟩

structure EOk (G : Gl) (m : Md) (A : Around) (env : Env) (ns : List Str) (ρ : List V) (σ : Hp) (s : Shared) : Prop where
  eok : EnvOk env
  loc : LOk G.B env ns ρ σ s.heap
  heap : HOk G.B σ s.heap
  room : ROk G.B m A σ s.heap
  frame : ∃ L, env.frame = some L
theorem EOk.step {G : Gl} {m : Md} {A : Around} {env : Env} {ns : List Str} {ρ : List V} {σ σ' : Hp} {s s' : Shared} (E : EOk G m A env ns ρ σ s) (S : St G.B σ s σ' s') : EOk G m A env ns ρ σ' s' :=
  ⟨E.eok, E.loc.step S.step E.heap, S.ok, E.room.step S.step, E.frame⟩

/-! ## what a tree is to give -/
def PV (B : Heap) (σ : Hp) (s : Shared) (Q : V → Hp → Prop) : Value → Shared → Prop :=
  fun v s' => ∃ x σ', St B σ s σ' s' ∧ Rel B s'.heap v x ∧ Q x σ'
def PL (B : Heap) (σ : Hp) (s : Shared) (Q : List V → Hp → Prop) : List Value → Shared → Prop :=
  fun vs s' => ∃ xs σ', St B σ s σ' s' ∧ RelL B s'.heap vs xs ∧ Q xs σ'
def PB (B : Heap) (σ : Hp) (s : Shared) (Q : Bool → Hp → Prop) : Bool → Shared → Prop :=
  fun b s' => ∃ σ', St B σ s σ' s' ∧ Q b σ'
theorem PV.from {B : Heap} {σ σ₁ : Hp} {s s₁ : Shared} {Q : V → Hp → Prop} (S : St B σ s σ₁ s₁) {v : Value} {s' : Shared} (h : PV B σ₁ s₁ Q v s') : PV B σ s Q v s' :=
  let ⟨x, σ', S', r, q⟩ := h; ⟨x, σ', S.trans S', r, q⟩
theorem PL.from {B : Heap} {σ σ₁ : Hp} {s s₁ : Shared} {Q : List V → Hp → Prop} (S : St B σ s σ₁ s₁) {v : List Value} {s' : Shared} (h : PL B σ₁ s₁ Q v s') : PL B σ s Q v s' :=
  let ⟨x, σ', S', r, q⟩ := h; ⟨x, σ', S.trans S', r, q⟩
theorem PB.from {B : Heap} {σ σ₁ : Hp} {s s₁ : Shared} {Q : Bool → Hp → Prop} (S : St B σ s σ₁ s₁) {v : Bool} {s' : Shared} (h : PB B σ₁ s₁ Q v s') : PB B σ s Q v s' :=
  let ⟨σ', S', q⟩ := h; ⟨σ', S.trans S', q⟩

theorem CellRel.there {B h : Heap} {a : Addr} {c : Cell} (r : CellRel B h a c) : ∃ o, h.get? a = some o := by
  cases c with
  | list xs => obtain ⟨_, ⟨_, ho⟩, _⟩ := r; exact ⟨_, ho⟩
  | dict _ => exact r.elim
  | inst _ _ => exact r.elim
  | aux => obtain ⟨o, _, _, ho, _⟩ := r; exact ⟨o, ho⟩
theorem St.new {B : Heap} {σ σ' : Hp} {s s' : Shared} (S : St B σ s σ' s') {p : Addr} (h : s'.heap.get? p = none) : s.heap.get? p = none := by
  cases q : s.heap.get? p with
  | none => rfl
  | some o =>
    cases c : σ p with
    | none => obtain ⟨_, o', e, _⟩ := S.step.keep p o q c; rw [h] at e; cases e
    | some c' => obtain ⟨c'', e⟩ := S.step.dom p c' c; obtain ⟨o', e'⟩ := (S.ok.cells p c'' e).there; rw [h] at e'; cases e'
/-- an exception object in flight, within the frame L, made since the heap h₀ -/
def ExcAt (B : Heap) (σ : Hp) (h₀ : Heap) (P : Option Value → Prop) (a : Addr) (C : Value) (h : Heap) : Prop :=
  h₀.get? a = none ∧ B.get? a = none ∧ σ a = none ∧ C ≠ .type "tuple" ∧ C ≠ .type "range" ∧ ∃ oe vs, h.get? a = some oe ∧ oe.cls = C ∧ oe.data = .fields vs ∧
    ((vs[1]? = some .none ∧ P none) ∨ ∃ T oT ts f, vs[1]? = some (.ref T) ∧ h₀.get? T = none ∧ T ≠ a ∧ B.get? T = none ∧ σ T = none ∧ h.get? T = some oT ∧ oT.cls = .type "traceback" ∧ oT.data = .fields ts ∧ ts[3]? = some f ∧ P (some f))
def flyIn (L : Addr) : Option Value → Prop
  | none => True
  | some f => f = .none ∨ f = rawInt L
/-- as St, but for the objects of D, which may change (and stay alive) -/
structure StX (B : Heap) (D : Addr → Prop) (σ : Hp) (s : Shared) (σ' : Hp) (s' : Shared) : Prop where
  keep : ∀ b o, s.heap.get? b = some o → σ b = none → ¬ D b → σ' b = none ∧ ∃ o', s'.heap.get? b = some o' ∧ KeepO o o'
  live : ∀ b o, s.heap.get? b = some o → D b → ∃ o', s'.heap.get? b = some o'
  dom : ∀ a c, σ a = some c → ∃ c', σ' a = some c'
  ok : HOk B σ' s'.heap
  rest : s' = { s with heap := s'.heap, toks := s'.toks }
theorem St.live {B : Heap} {σ σ' : Hp} {s s' : Shared} (S : St B σ s σ' s') {b : Addr} {o : Obj} (h : s.heap.get? b = some o) : ∃ o', s'.heap.get? b = some o' := by
  cases q : s'.heap.get? b with
  | some o' => exact ⟨o', rfl⟩
  | none => have := S.new q; rw [h] at this; cases this
theorem St.toX {B : Heap} {D : Addr → Prop} {σ σ' : Hp} {s s' : Shared} (S : St B σ s σ' s') : StX B D σ s σ' s' :=
  ⟨fun b o h n _ => S.step.keep b o h n, fun _ _ h _ => S.live h, S.step.dom, S.ok, S.rest⟩
theorem StX.new {B : Heap} {D : Addr → Prop} {σ σ' : Hp} {s s' : Shared} (S : StX B D σ s σ' s') {p : Addr} (h : s'.heap.get? p = none) : s.heap.get? p = none := by
  cases q : s.heap.get? p with
  | none => rfl
  | some o =>
    by_cases hD : D p
    · obtain ⟨o', e⟩ := S.live p o q hD; rw [h] at e; cases e
    · cases c : σ p with
      | none => obtain ⟨_, o', e, _⟩ := S.keep p o q c hD; rw [h] at e; cases e
      | some c' => obtain ⟨c'', e⟩ := S.dom p c' c; obtain ⟨o', e'⟩ := (S.ok.cells p c'' e).there; rw [h] at e'; cases e'
theorem StX.alive {B : Heap} {D : Addr → Prop} {σ σ' : Hp} {s s' : Shared} (S : StX B D σ s σ' s') {b : Addr} {o : Obj} (h : s.heap.get? b = some o) : ∃ o', s'.heap.get? b = some o' := by
  cases q : s'.heap.get? b with
  | some o' => exact ⟨o', rfl⟩
  | none => have := S.new q; rw [h] at this; cases this
theorem StX.trans {B : Heap} {D : Addr → Prop} {σ₁ σ₂ σ₃ : Hp} {s₁ s₂ s₃ : Shared} (x : StX B D σ₁ s₁ σ₂ s₂) (y : StX B D σ₂ s₂ σ₃ s₃) : StX B D σ₁ s₁ σ₃ s₃ :=
  ⟨fun b o e n d => let ⟨n', o', e', k⟩ := x.keep b o e n d; let ⟨n'', o'', e'', k'⟩ := y.keep b o' e' n' d; ⟨n'', o'', e'', k.trans k'⟩, fun b o e d => let ⟨o', e'⟩ := x.live b o e d; y.live b o' e' d,
    fun a c q => let ⟨c', q'⟩ := x.dom a c q; y.dom a c' q', y.ok, by rw [y.rest, x.rest]⟩
theorem StX.back {B : Heap} {D : Addr → Prop} {σ σ' : Hp} {s s' : Shared} (S : StX B D σ s σ' s') (h : ∀ b, D b → s.heap.get? b = none) : St B σ s σ' s' :=
  ⟨⟨fun b o e n => S.keep b o e n fun d => (by rw [h b d] at e; cases e), fun _ => S.ok.base, S.dom⟩, S.ok, S.rest⟩

/-- an exception comes out; R tells how the state goes on from h₀ -/
def EXP (P : Addr → Option Value → Prop) (R : Hp → Shared → Prop) (h₀ : Heap) (B : Heap) (A : Around) (oL : Option Addr) (X : Value → Hp → Prop) : Value → Shared → Prop :=
  fun e s' => ∃ a C σ' L l, e = .ref a ∧ oL = some L ∧ A.frames = some l ∧ FramesOk B σ' s'.heap l ∧ R σ' s' ∧ ExcAt B σ' h₀ (P L) a C s'.heap ∧ X C σ'
theorem EXP.to {P P' : Addr → Option Value → Prop} {R R' : Hp → Shared → Prop} {h₀ h₀' B : Heap} {A : Around} {oL : Option Addr} {X : Value → Hp → Prop} {v : Value} {s' : Shared} (h : EXP P R h₀ B A oL X v s')
    (hR : ∀ σ', R σ' s' → R' σ' s') (hn : ∀ p, h₀.get? p = none → h₀'.get? p = none) (hP : ∀ L f, oL = some L → P L f → P' L f) : EXP P' R' h₀' B A oL X v s' := by
  obtain ⟨a, C, σ', L, l, e, hL, hl, hF, S', ⟨h1, h2, h3, c1, c2, oe, vs, h4, h5, h6, h7⟩, q⟩ := h
  refine ⟨a, C, σ', L, l, e, hL, hl, hF, hR _ S', ⟨hn _ h1, h2, h3, c1, c2, oe, vs, h4, h5, h6, ?_⟩, q⟩
  rcases h7 with ⟨h7, h8⟩ | ⟨T, oT, ts, f, t1, t2, t3, t4, t5, t6, tc, t7, t8, t9⟩
  · exact .inl ⟨h7, hP _ _ hL h8⟩
  · exact .inr ⟨T, oT, ts, f, t1, hn _ t2, t3, t4, t5, t6, tc, t7, t8, hP _ _ hL t9⟩
def EX (B : Heap) (σ : Hp) (s : Shared) (A : Around) (oL : Option Addr) (X : Value → Hp → Prop) : Value → Shared → Prop := EXP flyIn (St B σ s) s.heap B A oL X
def EXS (B : Heap) (D : Addr → Prop) (σ : Hp) (s : Shared) (A : Around) (oL : Option Addr) (X : Value → Hp → Prop) : Value → Shared → Prop := EXP flyIn (StX B D σ s) s.heap B A oL X
theorem EX.from {B : Heap} {σ σ₁ : Hp} {s s₁ : Shared} {A : Around} {oL : Option Addr} {X : Value → Hp → Prop} (S : St B σ s σ₁ s₁) {v : Value} {s' : Shared} (h : EX B σ₁ s₁ A oL X v s') : EX B σ s A oL X v s' :=
  EXP.to h (fun _ S' => S.trans S') (fun _ => S.new) fun _ _ _ x => x
theorem EXS.from {B : Heap} {D : Addr → Prop} {σ σ₁ : Hp} {s s₁ : Shared} {A : Around} {oL : Option Addr} {X : Value → Hp → Prop} (S : StX B D σ s σ₁ s₁) {v : Value} {s' : Shared} (h : EXS B D σ₁ s₁ A oL X v s') : EXS B D σ s A oL X v s' :=
  EXP.to h (fun _ S' => S.trans S') (fun _ => S.new) fun _ _ _ x => x
theorem EX.toS {B : Heap} {D : Addr → Prop} {σ σ₁ : Hp} {s s₁ : Shared} {A : Around} {oL : Option Addr} {X : Value → Hp → Prop} (S : StX B D σ s σ₁ s₁) {v : Value} {s' : Shared} (h : EX B σ₁ s₁ A oL X v s') : EXS B D σ s A oL X v s' :=
  EXP.to h (fun _ S' => S.trans S'.toX) (fun _ => S.new) fun _ _ _ x => x

/-- a call of a value, whatever the state is that bears the abstract one -/
def CallOK (G : Gl) (m : Md) (f : Value) (xs : List V) (σ : Hp) (Q : V → Hp → Prop) (X : Value → Hp → Prop) : Prop :=
  ∀ A s vs, HOk G.B σ s.heap → ROk G.B m A σ s.heap → RelL G.B s.heap vs xs → ∀ oL, oL.isSome = true → wpAny G.M A (call f vs) (PV G.B σ s Q) (EX G.B σ s A oL X) s
def Gl.fn (G : Gl) (f : Str) : Addr := match G.mg f with | some (.ref a) => a | _ => 0
def IsFn (G : Gl) (f : Str) : Prop := ∃ o fd, G.mg f = some (.ref (G.fn f)) ∧ G.B.get? (G.fn f) = some o ∧ o.data = .func fd
def CallF (G : Gl) (m : Md) (f : Str) (xs : List V) (σ : Hp) (Q : V → Hp → Prop) (X : Value → Hp → Prop) : Prop := CallOK G m (.ref (G.fn f)) xs σ Q X

/-- binding one tree after another -/
theorem wp_seq {B : Heap} {M : Model} {A : Around} {σ : Hp} {s : Shared} {oL : Option Addr} {X : Value → Hp → Prop} {α : Type} {t : Sem Value} {f : Value → Sem α} {Q : V → Hp → Prop} {R : α → Shared → Prop}
    (h : wpAny M A t (PV B σ s Q) (EX B σ s A oL X) s)
    (k : ∀ v x σ₁ s₁, St B σ s σ₁ s₁ → Rel B s₁.heap v x → Q x σ₁ → wpAny M A (f v) R (EX B σ s A oL X) s₁) : wpAny M A (t >>= f) R (EX B σ s A oL X) s :=
  wpAny_bind (wpAny_mono h (fun v s₁ ⟨x, σ₁, S, r, q⟩ => k v x σ₁ s₁ S r q) fun _ _ e => e)
theorem wp_then {B : Heap} {M : Model} {A : Around} {σ : Hp} {s : Shared} {oL : Option Addr} {X : Value → Hp → Prop} {t : Sem Value} {Q : V → Hp → Prop} {R : Value → Shared → Prop}
    (h : wpAny M A t (PV B σ s Q) (EX B σ s A oL X) s)
    (k : ∀ v x σ₁ s₁, St B σ s σ₁ s₁ → Rel B s₁.heap v x → Q x σ₁ → R v s₁) : wpAny M A t R (EX B σ s A oL X) s :=
  wpAny_mono h (fun v s₁ ⟨x, σ₁, S, r, q⟩ => k v x σ₁ s₁ S r q) fun _ _ e => e
/-- a later part's posts, seen from an earlier state -/
theorem wp_from {B : Heap} {M : Model} {A : Around} {σ σ₁ : Hp} {s s₁ : Shared} {oL : Option Addr} {X : Value → Hp → Prop} {t : Sem Value} {Q : V → Hp → Prop} (S : St B σ s σ₁ s₁)
    (h : wpAny M A t (PV B σ₁ s₁ Q) (EX B σ₁ s₁ A oL X) s₁) : wpAny M A t (PV B σ s Q) (EX B σ s A oL X) s₁ :=
  wpAny_mono h (fun _ _ q => q.from S) fun _ _ e => EX.from S e
theorem wpB_from {B : Heap} {M : Model} {A : Around} {σ σ₁ : Hp} {s s₁ : Shared} {oL : Option Addr} {X : Value → Hp → Prop} {t : Sem Bool} {Q : Bool → Hp → Prop} (S : St B σ s σ₁ s₁)
    (h : wpAny M A t (PB B σ₁ s₁ Q) (EX B σ₁ s₁ A oL X) s₁) : wpAny M A t (PB B σ s Q) (EX B σ s A oL X) s₁ :=
  wpAny_mono h (fun _ _ q => q.from S) fun _ _ e => EX.from S e
theorem wpL_from {B : Heap} {M : Model} {A : Around} {σ σ₁ : Hp} {s s₁ : Shared} {oL : Option Addr} {X : Value → Hp → Prop} {t : Sem (List Value)} {Q : List V → Hp → Prop} (S : St B σ s σ₁ s₁)
    (h : wpAny M A t (PL B σ₁ s₁ Q) (EX B σ₁ s₁ A oL X) s₁) : wpAny M A t (PL B σ s Q) (EX B σ s A oL X) s₁ :=
  wpAny_mono h (fun _ _ q => q.from S) fun _ _ e => EX.from S e

/-! ## names -/
section
variable {G : Gl} {m : Md} {A : Around} {env : Env} {ns : List Str} {ρ : List V} {σ : Hp} {s : Shared} {E : Value → Shared → Prop}

theorem rel_of_relO {B h : Heap} {ov : Option Value} {x : V} (r : RelO B h ov x) (hx : x ≠ .unb) : ∃ v, ov = some v ∧ Rel B h v x := by
  cases ov with
  | none => cases x <;> first | exact absurd rfl hx | exact r.elim
  | some v => refine ⟨v, rfl, ?_⟩; cases x <;> first | exact absurd rfl hx | exact r

theorem name_var {x : Str} {pos : Pos} {i : Nat} {v : V} {Q : V → Hp → Prop} (K : EOk G m A env ns ρ σ s) (hx : ns[i]? = some x) (hv : ρ[i]? = some v) (hu : v ≠ .unb)
    (hk : env.kindOf x = some .local ∨ env.kindOf x = some .cell) (hd : (x == ("__debug__" : Str)) = false) (q : Q v σ) : wpAny G.M A (eval (.Name x pos) env) (PV G.B σ s Q) E s := by
  obtain ⟨mm, hn, r⟩ := K.loc.vars
  rcases hk with hk | hk
  · obtain ⟨w, hw, hr⟩ := rel_of_relO ((r i x v hx hv).1 hk) hu
    exact wpAny_Name (wpAny_loadName_local K.eok.kind hk hn hw ⟨v, σ, .refl K.heap, hr, q⟩) hd
  · obtain ⟨c, ov, hc, hcell, hro, _, _⟩ := (r i x v hx hv).2 hk
    obtain ⟨w, rfl, hr⟩ := rel_of_relO hro hu
    exact wpAny_Name (wpAny_loadName_cell K.eok.kind hk hc hcell ⟨v, σ, .refl K.heap, hr, q⟩) hd

theorem name_global {x : Str} {pos : Pos} {v : Value} {Q : Value → Shared → Prop} (K : EOk G m A env ns ρ σ s) (GO : G.Ok) (hv : G.mg x = some v ∨ (G.mg x = none ∧ G.mb x = some v))
    (hk : env.kindOf x = some .globalImplicit) (hd : (x == ("__debug__" : Str)) = false) (q : Q v s) : wpAny G.M A (eval (.Name x pos) env) Q E s := by
  refine Calls.Name_function_global K.eok.kind hk ?_ hd
  have hg : s.heap.Ns env.globals G.mg := by rw [K.eok.globals]; exact GO.g.keeps K.heap.base
  rcases hv with hv | ⟨h1, h2⟩
  · exact Calls.loadGlobal_global hg hv q
  · exact Calls.loadGlobal_builtin hg h1 (by rw [K.eok.builtins]; exact GO.b.keeps K.heap.base) h2 q
end
end Mine

set_option autoImplicit false
namespace Mine
open PySem PyProof.Rows

/-! ## the resolved syntax -/
def lit (s : String) : List Nat := s.toList.map Char.toNat

inductive CE where
  | cNone | cBool (b : Bool) | cInt (i : Int) | cStr (s : List Nat)
  | var (i : Nat) | glob (x : Str)
  | bin (op : Operator) (a b : CE)
  | usub (a : CE)
  | nt (a : CE)
  | bop (isAnd : Bool) (xs : List CE)
  | cmp (a : CE) (op : CmpOp) (b : CE)
  | cmp2 (a : CE) (op : CmpOp) (b : CE) (op' : CmpOp) (c : CE)
  | ite (c a b : CE)
  | list (xs : List CE) | tuple (xs : List CE) | dict0
  | idx (a i : CE) | slc (a : CE) (lo hi : Option CE)
  | callF (f : Str) (args : List CE)
  | callB (b : Blt) (args : List CE)
  | sortedK (arg : CE) (f : Str)
  | new (C : Str) (args : List CE)
  | meth (o : CE) (nm : Mth) (args : List CE)
  | methU (o : CE) (nm : Str) (args : List CE)
  | attr (o : CE) (nm : Str)
  | comp (caps : List Nat) (tgt : List Str) (many : Bool) (elt iter : CE) (conds : List CE)

inductive CS where
  | asg (i : Nat) (e : CE)
  | asgT (is : List Nat) (e : CE)
  | asgSub (o k v : CE)
  | asgAttr (o : CE) (nm : Str) (v : CE)
  | expr (e : CE)
  | ret (e : CE)
  | retN
  | ite (c : CE) (a b : List CS)
  | whl (c : CE) (body : List CS)
  | for1 (i : Nat) (iter : CE) (body : List CS)
  | forT (is : List Nat) (iter : CE) (body : List CS)
  | raise (C : Str) (args : List CE)
  | tryx (body : List CS) (hs : List (Str × Option Nat × List CS))
  | pass

def nameOK (sc : Scope) (ns : List Str) (i : Nat) (x : Str) : Bool :=
  ns[i]? == some x && (sc.names.lookup x == some .local || sc.names.lookup x == some .cell) && !(x == ("__debug__" : Str))
def globOK (sc : Scope) (x : Str) : Bool := sc.names.lookup x == some .globalImplicit && !(x == ("__debug__" : Str))
def relabelS (scope sc : Scope) : Scope :=
  { scope with names := scope.names.map fun (n, k) => if (k == .free && sc.kind == .function && sc.names.lookup n == some .cell) then (n, .cell) else (n, k) }
def notSuper : PySem.Expr → Bool
  | .Call (.Name id _) [] [] _ => !(id == ("super" : Str))
  | _ => true

mutual
def chkE (sc : Scope) (ns : List Str) : CE → PySem.Expr → Bool
  | .cNone, .Constant .none _ _ => true
  | .cBool b, .Constant (.bool c) _ _ => b == c
  | .cInt i, .Constant (.int j) _ _ => i == j
  | .cStr s, .Constant (.str t) _ _ => t.cps.toList == s
  | .var i, .Name x _ => nameOK sc ns i x
  | .glob x, .Name y _ => x == y && globOK sc y
  | .bin op a b, .BinOp l o r _ => op == o && chkE sc ns a l && chkE sc ns b r
  | .usub a, .UnaryOp .USub x _ => chkE sc ns a x
  | .nt a, .UnaryOp .Not x _ => chkE sc ns a x
  | .bop t xs, .BoolOp o es _ => (o == if t then .And else .Or) && !xs.isEmpty && chkEs sc ns xs es
  | .cmp a op b, .Compare l [o] [r] _ => op == o && !behindInMarks o r && chkE sc ns a l && chkE sc ns b r
  | .cmp2 a op b op' c, .Compare l [o, o'] [r, r'] _ => op == o && op' == o' && !behindInMarks o' r' && chkE sc ns a l && chkE sc ns b r && chkE sc ns c r'
  | .ite c a b, .IfExp t x y _ => chkE sc ns c t && chkE sc ns a x && chkE sc ns b y
  | .list xs, .List es _ => chkEs sc ns xs es
  | .tuple xs, .Tuple es _ _ => chkEs sc ns xs es
  | .dict0, .Dict [] [] _ => true
  | .idx a i, .Subscript v sl _ => chkE sc ns a v && chkE sc ns i sl
  | .slc a lo hi, .Subscript v (.Slice l u none _) _ => chkE sc ns a v && chkO sc ns lo l && chkO sc ns hi u
  | .callF f args, .Call (.Name g _) es [] _ => f == g && globOK sc g && chkEs sc ns args es
  | .callB b args, .Call (.Name g _) es [] _ => b.nm == g && globOK sc g && chkEs sc ns args es
  | .sortedK a f, .Call (.Name g _) [e] [⟨some k, .Name h _, _⟩] _ => g == ("sorted" : Str) && globOK sc g && k == ("key" : Str) && h == f && globOK sc f && chkE sc ns a e
  | .new C args, .Call (.Name g _) es [] _ => C == g && globOK sc g && chkEs sc ns args es
  | .meth o nm args, .Call (.Attribute v n ap) es [] p => n == nm.nm && notSuper v && ap.endLine == p.line && chkE sc ns o v && chkEs sc ns args es && es.length < 8
  | .methU o nm args, .Call (.Attribute v n ap) es [] p => n == nm && notSuper v && ap.endLine == p.line && chkE sc ns o v && chkEs sc ns args es && es.length < 8
  | .attr o nm, .Attribute v n _ => n == nm && notSuper v && chkE sc ns o v
  | .comp caps tgt many elt iter conds, .ListComp e [⟨t, it, ifs, 0⟩] scope _ =>
    chkE sc ns iter it && chkT tgt many t && scope.kind == .function && scope.names.all (fun x => x.2 != .cell) &&
    scope.names.all (fun x => x.2 != .local || scope.names.lookup x.1 == some .local) && tgt.all (fun x => scope.names.lookup x == some .local) &&
    caps.all (fun i => i < ns.length) && chkE (relabelS scope sc) (caps.map (fun i => ns.getD i Str.empty) ++ tgt) elt e && chkEs (relabelS scope sc) (caps.map (fun i => ns.getD i Str.empty) ++ tgt) conds ifs
  | _, _ => false
def chkEs (sc : Scope) (ns : List Str) : List CE → List PySem.Expr → Bool
  | [], [] => true
  | c :: cs, e :: es => chkE sc ns c e && chkEs sc ns cs es
  | _, _ => false
def chkO (sc : Scope) (ns : List Str) : Option CE → Option PySem.Expr → Bool
  | none, none => true
  | some c, some e => chkE sc ns c e
  | _, _ => false
def chkT : List Str → Bool → PySem.Expr → Bool
  | [x], false, .Name y _ => x == y
  | _, _, _ => false
end

def chkTs (ns : List Str) (sc : Scope) : List Nat → List PySem.Expr → Bool
  | [], [] => true
  | i :: is, .Name x _ :: es => nameOK sc ns i x && chkTs ns sc is es
  | _, _ => false

def notTupE : PySem.Expr → Bool
  | .Tuple .. => false
  | _ => true
def isComp : PySem.Expr → Bool
  | .ListComp .. | .SetComp .. | .DictComp .. => true
  | _ => false
mutual
def chkS (sc : Scope) (ns : List Str) : CS → PySem.Stmt → Bool
  | .asg i e, .Assign [.Name x p] v _ => nameOK sc ns i x && chkE sc ns e v && (!isComp v || (p.line == v.pos.line && sc.names.lookup x == some .local))
  | .asgT is e, .Assign [.Tuple ts _ _] v _ => chkTs ns sc is ts && chkE sc ns e v && notTupE v && !isComp v
  | .asgSub o k v, .Assign [.Subscript eo ek _] ev _ => chkE sc ns o eo && chkE sc ns k ek && chkE sc ns v ev && !isComp ev
  | .asgAttr o nm v, .Assign [.Attribute eo n _] ev _ => nm == n && chkE sc ns o eo && chkE sc ns v ev && !isComp ev
  | .expr e, .Expr v _ => chkE sc ns e v && !isComp v
  | .ret e, .Return (some v) _ => chkE sc ns e v
  | .retN, .Return none _ => true
  | .ite c a b, .If t x y _ => chkE sc ns c t && chkSs sc ns a x && chkSs sc ns b y
  | .whl c b, .While t x [] _ => chkE sc ns c t && chkSs sc ns b x
  | .for1 i it b, .For (.Name x _) e body [] _ => nameOK sc ns i x && chkE sc ns it e && chkSs sc ns b body
  | .forT is it b, .For (.Tuple ts _ _) e body [] _ => chkTs ns sc is ts && chkE sc ns it e && chkSs sc ns b body
  | .pass, .Pass _ => true
  | _, _ => false
def chkSs (sc : Scope) (ns : List Str) : List CS → List PySem.Stmt → Bool
  | [], [] => true
  | c :: cs, e :: es => chkS sc ns c e && chkSs sc ns cs es
  | _, _ => false
end

/-! ## the predicate transformer -/
def truthP (x : V) (Q : Bool → Prop) : Prop :=
  match x with
  | .bool b => Q b
  | _ => False

mutual
def eqB : V → V → Option Bool
  | .none, .none => some true
  | .bool a, .bool b => some (a == b)
  | .int a, .int b => some (a == b)
  | .str a, .str b => some (a == b)
  | .tup a, .tup b => eqBs a b
  | .none, .int _ | .none, .str _ | .none, .bool _ | .int _, .none | .str _, .none | .bool _, .none | .str _, .int _ | .int _, .str _ | .str _, .bool _ | .bool _, .str _ => some false
  | _, _ => Option.none
def eqBs : List V → List V → Option Bool
  | [], [] => some true
  | x :: xs, y :: ys => match eqB x y with
    | some true => eqBs xs ys
    | some false => if xs.length = ys.length then some false else Option.none
    | Option.none => Option.none
  | _, _ => some false
end

def eqP (x y : V) (_σ : Hp) (Q : Bool → Prop) : Prop :=
  match x, y with
  | .int a, .int b => Q (a == b)
  | .str a, .str b => Q (a == b)
  | _, _ => False
def ltStr (a b : List Nat) : Bool := decide (a < b)
def isNone : V → Option Bool
  | .none => some true
  | .bool _ | .int _ | .str _ | .tup _ | .ref _ => some false
  | _ => Option.none
def isBool (x : V) (c : Bool) : Option Bool :=
  match x with
  | .bool b => some (b == c)
  | .none | .int _ | .str _ | .tup _ | .ref _ => some false
  | _ => Option.none
def cmpP (op : CmpOp) (x y : V) (σ : Hp) (Q : Bool → Prop) : Prop :=
  match op, x, y with
  | .Eq, x, y => eqP x y σ Q
  | .NotEq, x, y => eqP x y σ (fun b => Q (!b))
  | .Lt, .int a, .int b => Q (decide (a < b))
  | .LtE, .int a, .int b => Q (decide (a ≤ b))
  | .Gt, .int a, .int b => Q (decide (b < a))
  | .GtE, .int a, .int b => Q (decide (b ≤ a))
  | .Is, x, .none => ∃ b, isNone x = some b ∧ Q b
  | .IsNot, x, .none => ∃ b, isNone x = some b ∧ Q (!b)
  | .Is, x, .bool c => ∃ b, isBool x c = some b ∧ Q b
  | _, _, _ => False
def binP (op : Operator) (x y : V) (σ : Hp) (Q : V → Hp → Prop) : Prop :=
  match op, x, y with
  | .Add, .int a, .int b => Q (.int (a + b)) σ
  | .Sub, .int a, .int b => Q (.int (a - b)) σ
  | .Mult, .int a, .int b => IntMulOk a b ∧ Q (.int (a * b)) σ
  | .Mod, .int a, .int b => 0 < b ∧ Q (.int (a % b)) σ
  | .FloorDiv, .int a, .int b => 0 < b ∧ b < 1073741824 ∧ Q (.int (a / b)) σ
  | .Add, .str a, .str b => a.length + b.length ≤ sizeLine ∧ Q (.str (a ++ b)) σ
  | _, _, _ => False
def negP (x : V) (σ : Hp) (Q : V → Hp → Prop) : Prop :=
  match x with
  | .int a => Q (.int (-a)) σ
  | _ => False
def idxP (x i : V) (σ : Hp) (Q : V → Hp → Prop) : Prop :=
  match x, i with
  | .str s, .int i => 0 ≤ i ∧ i < s.length ∧ s.length < 2 ^ 62 ∧ Q (.str [s.getD i.toNat 0]) σ
  | .ref a, .int i => ∃ xs j v, σ a = some (.list xs) ∧ seqIndex? i xs.length = some j ∧ -(2 ^ 62) ≤ i ∧ i < 2 ^ 62 ∧ xs[j]? = some v ∧ Q v σ
  | .lst xs, .int i => ∃ v, 0 ≤ i ∧ i < 2 ^ 62 ∧ xs[i.toNat]? = some v ∧ Q v σ
  | .tup xs, .int i => ∃ j v, seqIndex? i xs.length = some j ∧ -(2 ^ 62) ≤ i ∧ i < 2 ^ 62 ∧ xs[j]? = some v ∧ Q v σ
  | _, _ => False
def clampI (o : Option Int) (dflt n : Nat) : Nat :=
  match o with
  | none => dflt
  | some i => if i < 0 then (i + n).toNat else min i.toNat n
def slice {α : Type} (xs : List α) (lo hi : Option Int) : List α := (xs.take (clampI hi xs.length xs.length)).drop (clampI lo 0 xs.length)
def optI : Option V → Option (Option Int)
  | none => some none
  | some (.int i) => some (some i)
  | some .none => some none
  | _ => none
def slcP (x : V) (lo hi : Option Int) (σ : Hp) (Q : V → Hp → Prop) : Prop :=
  match x with
  | .str s => s.length ≤ sizeLine ∧ Q (.str (slice s lo hi)) σ
  | _ => False
inductive Kd where
  | knone | kbool | kint | kstr | ktup | klist
def kindV (σ : Hp) : V → Option Kd
  | .none => some .knone
  | .bool _ => some .kbool
  | .int _ => some .kint
  | .str _ => some .kstr
  | .tup _ => some .ktup
  | .ref a => match σ a with
    | some (.list _) => some .klist
    | _ => none
  | _ => none
def instK : String → Kd → Option Bool
  | "str", .kstr => some true
  | "str", _ => some false
  | "int", .kint => some true
  | "int", .kbool => some true
  | "int", _ => some false
  | "bool", .kbool => some true
  | "bool", _ => some false
  | "tuple", .ktup => some true
  | "tuple", _ => some false
  | "list", .klist => some true
  | "list", _ => some false
  | _, _ => none
def instB (σ : Hp) (x t : V) : Option Bool :=
  match t with
  | .prim (.type T) => match kindV σ x with
    | some k => instK T k
    | none => none
  | _ => none
def bltP (b : Blt) (xs : List V) (σ : Hp) (Q : V → Hp → Prop) : Prop :=
  match b, xs with
  | .len, [.str s] => s.length < 2 ^ 62 ∧ Q (.int s.length) σ
  | .len, [.ref a] => ∃ ys, σ a = some (.list ys) ∧ ys.length < 2 ^ 62 ∧ Q (.int ys.length) σ
  | .len, [.lst ys] => ys.length < 2 ^ 62 ∧ Q (.int ys.length) σ
  | .isinst, [x, t] => ∃ b, instB σ x t = some b ∧ Q (.bool b) σ
  | .range1, [.int n] => -(2 ^ 62) ≤ n ∧ n < 2 ^ 62 ∧ Q (.rng 0 n) σ
  | .range2, [.int k, .int n] => -(2 ^ 62) ≤ k ∧ k < 2 ^ 62 ∧ -(2 ^ 62) ≤ n ∧ n < 2 ^ 62 ∧ Q (.rng k n) σ
  | .len, [.tup ys] => ys.length < 2 ^ 62 ∧ Q (.int ys.length) σ
  | .tuple1, [.ref a] => ∃ ys, σ a = some (.list ys) ∧ ys.length ≤ sizeLine ∧ Q (.tup ys) σ
  | .int1, [.bool b] => Q (.int (if b then 1 else 0)) σ
  | _, _ => False
def mthP (nm : Mth) (o : V) (xs : List V) (σ : Hp) (Q : V → Hp → Prop) : Prop :=
  match nm, o, xs with
  | .startswith, .str a, [.str b] => Q (.bool (b.isPrefixOf a)) σ
  | .append, .ref a, [x] => ∃ xs, σ a = some (.list xs) ∧ xs.length ≤ sizeLine ∧ Q .none (σ.set a (.list (xs ++ [x])))
  | _, _, _ => False
def Mth.id : Mth → String
  | .startswith => "str.startswith" | .append => "list.append" | .pop => "list.pop" | .get => "dict.get" | .split => "str.split" | .partition => "str.partition" | .join => "str.join"
def mthTy (nm : Mth) (x : V) (σ : Hp) : Prop :=
  match nm, x with
  | .startswith, .str _ => True
  | .append, .ref a => ∃ xs, σ a = some (.list xs)
  | _, _ => False
def newL (xs : List V) (σ : Hp) (Q : V → Hp → Prop) : Prop := xs.length ≤ sizeLine ∧ ∀ a, σ a = none → Q (.ref a) (σ.set a (.list xs))

/-- the items that an iteration over a value gives -/
def itemsOf (σ : Hp) : V → Option (List V)
  | .ref a => match σ a with
    | some (.list xs) => some xs
    | _ => none
  | .tup xs => some xs
  | .lst xs => some xs
  | .rng a b => some ((List.range (b - a).toNat).map fun (i : Nat) => V.int (a + (i : Int)))
  | .str s => some (s.map fun c => .str [c])
  | _ => none

section
variable (G : Gl) (m : Md)
mutual
def wpE : CE → List V → Hp → (V → Hp → Prop) → (Value → Hp → Prop) → Prop
  | .cNone, _, σ, Q, _ => Q .none σ
  | .cBool b, _, σ, Q, _ => Q (.bool b) σ
  | .cInt i, _, σ, Q, _ => Q (.int i) σ
  | .cStr s, _, σ, Q, _ => Q (.str s) σ
  | .var i, ρ, σ, Q, _ => ρ.getD i .unb ≠ .unb ∧ Q (ρ.getD i .unb) σ
  | .glob x, _, σ, Q, _ => G.gl x ≠ .unb ∧ Q (G.gl x) σ
  | .bin op a b, ρ, σ, Q, X => wpE a ρ σ (fun x σ₁ => wpE b ρ σ₁ (fun y σ₂ => binP op x y σ₂ Q) X) X
  | .usub a, ρ, σ, Q, X => wpE a ρ σ (fun x σ₁ => negP x σ₁ Q) X
  | .nt a, ρ, σ, Q, X => wpE a ρ σ (fun x σ₁ => truthP x fun b => Q (.bool (!b)) σ₁) X
  | .bop t xs, ρ, σ, Q, X => wpB t xs ρ σ Q X
  | .cmp a op b, ρ, σ, Q, X => wpE a ρ σ (fun x σ₁ => wpE b ρ σ₁ (fun y σ₂ => cmpP op x y σ₂ fun b => Q (.bool b) σ₂) X) X
  | .ite c a b, ρ, σ, Q, X => wpE c ρ σ (fun x σ₁ => truthP x fun t => if t then wpE a ρ σ₁ Q X else wpE b ρ σ₁ Q X) X
  | .list xs, ρ, σ, Q, X => wpL xs ρ σ (fun vs σ₁ => newL vs σ₁ Q) X
  | .tuple xs, ρ, σ, Q, X => wpL xs ρ σ (fun vs σ₁ => vs.length ≤ sizeLine ∧ Q (.tup vs) σ₁) X
  | .idx a i, ρ, σ, Q, X => wpE a ρ σ (fun x σ₁ => wpE i ρ σ₁ (fun y σ₂ => idxP x y σ₂ Q) X) X
  | .slc a lo hi, ρ, σ, Q, X => wpE a ρ σ (fun x σ₁ => wpO lo ρ σ₁ (fun l σ₂ => wpO hi ρ σ₂ (fun u σ₃ => slcP x l u σ₃ Q) X) X) X
  | .callF f args, ρ, σ, Q, X => IsFn G f ∧ wpL args ρ σ (fun vs σ₁ => CallF G m f vs σ₁ Q X) X
  | .callB b args, ρ, σ, Q, X => wpL args ρ σ (fun vs σ₁ => bltP b vs σ₁ Q) X
  | .meth o nm args, ρ, σ, Q, X => wpE o ρ σ (fun x σ₁ => mthTy nm x σ₁ ∧ wpL args ρ σ₁ (fun vs σ₂ => mthP nm x vs σ₂ Q) X) X
  | _, _, _, _, _ => False
def wpL : List CE → List V → Hp → (List V → Hp → Prop) → (Value → Hp → Prop) → Prop
  | [], _, σ, Q, _ => Q [] σ
  | c :: cs, ρ, σ, Q, X => wpE c ρ σ (fun x σ₁ => wpL cs ρ σ₁ (fun xs σ₂ => Q (x :: xs) σ₂) X) X
def wpB (t : Bool) : List CE → List V → Hp → (V → Hp → Prop) → (Value → Hp → Prop) → Prop
  | [], _, _, _, _ => False
  | [c], ρ, σ, Q, X => wpE c ρ σ Q X
  | c :: cs, ρ, σ, Q, X => wpE c ρ σ (fun x σ₁ => truthP x fun b => if b = t then wpB t cs ρ σ₁ Q X else Q x σ₁) X
def wpO : Option CE → List V → Hp → (Option Int → Hp → Prop) → (Value → Hp → Prop) → Prop
  | none, _, σ, Q, _ => Q none σ
  | some c, ρ, σ, Q, X => wpE c ρ σ (fun x σ₁ => match x with | .int i => Q (some i) σ₁ | _ => False) X
end

inductive Fl where
  | next
  | ret (v : V)

abbrev KS := Fl → List V → Hp → Prop
def forP (xs : List V) (v : V) (upd : List V → V → Option (List V)) (body : List V → Hp → KS → Prop) (ρ : List V) (σ : Hp) (K : KS) : Prop :=
  ∃ I : Nat → List V → Hp → Prop, I 0 ρ σ ∧
    (∀ i ρ σ x, xs[i]? = some x → I i ρ σ → itemsOf σ v = some xs ∧ ∃ ρ', upd ρ x = some ρ' ∧ body ρ' σ fun f ρ σ => match f with | .next => I (i + 1) ρ σ | .ret r => K (.ret r) ρ σ) ∧
    ∀ ρ σ, I xs.length ρ σ → itemsOf σ v = some xs ∧ K .next ρ σ
def setMany (ρ : List V) : List Nat → List V → Option (List V)
  | [], [] => some ρ
  | i :: is, x :: xs => setMany (ρ.set i x) is xs
  | _, _ => none
mutual
def wpS : CS → List V → Hp → KS → (Value → Hp → Prop) → Prop
  | .asg i e, ρ, σ, K, X => wpE G m e ρ σ (fun x σ₁ => K .next (ρ.set i x) σ₁) X
  | .expr e, ρ, σ, K, X => wpE G m e ρ σ (fun _ σ₁ => K .next ρ σ₁) X
  | .ret e, ρ, σ, K, X => wpE G m e ρ σ (fun x σ₁ => K (.ret x) ρ σ₁) X
  | .retN, ρ, σ, K, _ => K (.ret .none) ρ σ
  | .ite c a b, ρ, σ, K, X => wpE G m c ρ σ (fun x σ₁ => truthP x fun t => if t then wpSs a ρ σ₁ K X else wpSs b ρ σ₁ K X) X
  | .whl c b, ρ, σ, K, X => ∃ I : Nat → List V → Hp → Prop, (∃ n, I n ρ σ) ∧ ∀ n ρ σ, I n ρ σ →
      wpE G m c ρ σ (fun x σ₁ => truthP x fun t => if t then wpSs b ρ σ₁ (fun f ρ σ => match f with | .next => ∃ k, k < n ∧ I k ρ σ | .ret r => K (.ret r) ρ σ) X else K .next ρ σ₁) X
  | .for1 i it b, ρ, σ, K, X => m.hd = true ∧ wpE G m it ρ σ (fun v σ₁ => ∃ xs, itemsOf σ₁ v = some xs ∧ forP xs v (fun ρ x => some (ρ.set i x)) (fun ρ σ K => wpSs b ρ σ K X) ρ σ₁ K) X
  | .forT is it b, ρ, σ, K, X => m.hd = true ∧ wpE G m it ρ σ (fun v σ₁ => ∃ xs, itemsOf σ₁ v = some xs ∧ forP xs v (fun ρ x => match x with | .tup ys => setMany ρ is ys | _ => none) (fun ρ σ K => wpSs b ρ σ K X) ρ σ₁ K) X
  | .asgT is e, ρ, σ, K, X => m.hd = true ∧ wpE G m e ρ σ (fun x σ₁ => match x with | .tup ys => (∃ ρ', setMany ρ is ys = some ρ' ∧ K .next ρ' σ₁) | _ => False) X
  | .pass, ρ, σ, K, _ => K .next ρ σ
  | _, _, _, _, _ => False
def wpSs : List CS → List V → Hp → KS → (Value → Hp → Prop) → Prop
  | [], ρ, σ, K, _ => K .next ρ σ
  | c :: cs, ρ, σ, K, X => wpS c ρ σ (fun f ρ σ => match f with | .next => wpSs cs ρ σ K X | .ret r => K (.ret r) ρ σ) X
end
end
end Mine

set_option autoImplicit false
namespace Mine
open PySem PyProof.Rows

/-! ## primitives -/
section
variable {G : Gl} {m : Md} {A : Around} {σ : Hp} {s : Shared} {E : Value → Shared → Prop}

theorem pv_same {Q : V → Hp → Prop} {v : Value} {x : V} (H : HOk G.B σ s.heap) (r : Rel G.B s.heap v x) (q : Q x σ) : PV G.B σ s Q v s := ⟨x, σ, .refl H, r, q⟩
theorem pv_tok {Q : V → Hp → Prop} {v : Value} {x : V} (H : HOk G.B σ s.heap) (t : Nat) (r : Rel G.B s.heap v x) (q : Q x σ) : PV G.B σ s Q v { s with toks := t } := ⟨x, σ, .toks H t, r, q⟩

theorem append_str (a b : List Nat) : (⟨a.toArray⟩ : Str) ++ (⟨b.toArray⟩ : Str) = ⟨(a ++ b).toArray⟩ := by
  show Str.append _ _ = _
  simp [Str.append]
theorem length_str (a : List Nat) : (⟨a.toArray⟩ : Str).length = a.length := by simp [Str.length]

theorem made_str {Q : V → Hp → Prop} (H : HOk G.B σ s.heap) {a : List Nat} (hl : a.length ≤ sizeLine) (q : Q (.str a) σ) : (Made.str ⟨a.toArray⟩).post (PV G.B σ s Q) s :=
  ⟨by rw [length_str]; exact hl, pv_tok H _ (.str _ _) q⟩

theorem bin_ok {op : Operator} {v w : Value} {x y : V} {Q : V → Hp → Prop} (H : HOk G.B σ s.heap) (rv : Rel G.B s.heap v x) (rw' : Rel G.B s.heap w y) (h : binP op x y σ Q) :
    wpAny G.M A (binaryOp op v w) (PV G.B σ s Q) E s := by
  unfold binP at h
  split at h
  · cases rv; cases rw'; exact P.add_int (pv_tok H _ (.int _ _) h)
  · cases rv; cases rw'; exact P.sub_int (pv_tok H _ (.int _ _) h)
  · cases rv; cases rw'; exact P.mul_int (pv_tok H _ (.int _ _) h.2) h.1
  · rename_i a b
    cases rv; cases rw'
    have e : a.fmod b = a % b := Int.fmod_eq_emod_of_nonneg _ (by omega)
    exact mod_int' (by omega) (by rw [e]; exact pv_tok H _ (.int _ _) h.2)
  · rename_i a b
    cases rv; cases rw'
    have e : a.fdiv b = a / b := Int.fdiv_eq_ediv_of_nonneg _ (by omega)
    exact floordiv_int (by omega) (by rw [e]; exact pv_tok H _ (.int _ _) h.2.2) (.inl (PyProof.noPylong_small (by omega)))
  · rename_i a b
    cases rv with | str _ t => cases rw' with | str _ u =>
    refine P.add_str ?_
    rw [length_str, length_str, append_str]
    split
    · rename_i hz
      have : a = [] := by simpa using hz
      subst this
      exact pv_same H (.str _ _) h.2
    · split
      · rename_i hz
        have : b = [] := by simpa using hz
        subst this
        have h2 := h.2
        rw [List.append_nil] at h2
        exact pv_same H (.str _ _) h2
      · exact made_str H (by rw [List.length_append]; exact h.1) h.2
  · exact h.elim

theorem vbool_beq (b c : Bool) : (Value.bool b == Value.bool c) = (b == c) := by cases b <;> cases c <;> rfl
theorem str_inj {a b : List Nat} : (a.toArray.toList == b.toArray.toList) = (a == b) := by simp
theorem eq_ok {v w : Value} {x y : V} {Q : Bool → Prop} {R : Value → Shared → Prop} (rv : Rel G.B s.heap v x) (rw' : Rel G.B s.heap w y) (h : eqP x y σ Q) (k : ∀ b, Q b → R (.bool b) s) :
    wpAny G.M A (compareOp .Eq v w) R E s := by
  unfold eqP at h
  split at h
  · cases rv; cases rw'; exact P.eq_int (k _ h)
  · cases rv; cases rw'; exact P.eq_str (by rw [str_inj]; exact k _ h)
  · exact h.elim
theorem ne_ok {v w : Value} {x y : V} {Q : Bool → Prop} {R : Value → Shared → Prop} (rv : Rel G.B s.heap v x) (rw' : Rel G.B s.heap w y) (h : eqP x y σ Q) (k : ∀ b, Q b → R (.bool (!b)) s) :
    wpAny G.M A (compareOp .NotEq v w) R E s := by
  unfold eqP at h
  split at h
  · cases rv; cases rw'; exact P.ne_int (k _ h)
  · cases rv; cases rw'; exact P.ne_str (by simp only [bne]; exact k _ h)
  · exact h.elim
theorem is_none_ok {v : Value} {x : V} {Q : Bool → Prop} {R : Value → Shared → Prop} (rv : Rel G.B s.heap v x) (h : ∃ b, isNone x = some b ∧ Q b) (k : ∀ b, Q b → R (.bool b) s) :
    wpAny G.M A (compareOp .Is v .none) R E s := by
  obtain ⟨b, hb, q⟩ := h
  have fin : ∀ v, v ≠ .none → plainIs v .none = true → b = false → wpAny G.M A (compareOp .Is v .none) R E s := fun v hv hp e => wpAny_is_other hp hv (by subst e; exact k _ q)
  cases rv <;> simp only [isNone, Option.some.injEq] at hb <;> first
    | (cases hb; exact wpAny_is_self rfl (k _ q))
    | exact fin _ (fun e => by cases e) rfl hb.symm
    | cases hb
theorem isNot_of_is {v w : Value} {R : Value → Shared → Prop} {R' : Value → Shared → Prop} (h : wpAny G.M A (compareOp .Is v w) R' E s) (k : ∀ v' s', R' v' s' → ∃ b, v' = .bool b ∧ R (.bool (!b)) s') :
    wpAny G.M A (compareOp .IsNot v w) R E s := by
  show wpAny _ A (isSame v w >>= fun b => pure (.bool (!b))) R E s
  have h' : wpAny G.M A (isSame v w >>= fun b => pure (Value.bool b)) R' E s := h
  intro Γ p hΓ
  have := h' Γ p hΓ
  rw [Sem.wp_bind'] at this ⊢
  refine Sem.wp_mono _ Γ _ (fun b p' s' hb => ?_) (fun _ _ _ x => x) _ _ this
  obtain ⟨b', e, r⟩ := k _ _ hb
  cases e
  exact r
theorem cmp_ok {op : CmpOp} {v w : Value} {x y : V} {Q : Bool → Prop} {R : Value → Shared → Prop} (rv : Rel G.B s.heap v x) (rw' : Rel G.B s.heap w y) (h : cmpP op x y σ Q) (k : ∀ b, Q b → R (.bool b) s) :
    wpAny G.M A (compareOp op v w) R E s := by
  unfold cmpP at h
  split at h
  · exact eq_ok rv rw' h k
  · exact ne_ok rv rw' h fun b q => k _ q
  · cases rv; cases rw'; exact P.lt_int (k _ h)
  · cases rv; cases rw'; exact P.le_int (k _ h)
  · cases rv; cases rw'; exact P.gt_int (k _ h)
  · cases rv; cases rw'; exact P.ge_int (k _ h)
  · cases rw'; exact is_none_ok rv h k
  · cases rw'
    obtain ⟨b, hb, q⟩ := h
    refine isNot_of_is (is_none_ok (Q := fun b' => b' = b) rv ⟨b, hb, rfl⟩ (R := fun v s' => ∃ b', v = .bool b' ∧ b' = b ∧ s' = s) fun b' e => ⟨b', rfl, e, rfl⟩) ?_
    rintro _ s' ⟨b', rfl, rfl, rfl⟩
    exact ⟨_, rfl, k _ q⟩
  · rename_i c
    cases rw'
    obtain ⟨b, hb, q⟩ := h
    have fin : ∀ v, (∀ d, v ≠ .bool d) → plainIs v (.bool c) = true → b = false → wpAny G.M A (compareOp .Is v (.bool c)) R E s := fun v hv hp e =>
      wpAny_is_other hp (hv c) (by subst e; exact k _ q)
    cases rv <;> simp only [isBool, Option.some.injEq] at hb <;> first
      | (cases hb; exact wpAny_is_plain rfl (by rw [vbool_beq]; exact k _ q))
      | exact fin _ (fun _ e => by cases e) rfl hb.symm
      | cases hb
  · exact h.elim
end
end Mine

set_option autoImplicit false
namespace Mine
open PySem PyProof.Rows

section
variable {B : Heap} {σ : Hp} {s : Shared}
theorem HOk.top {h : Heap} (H : HOk B σ h) : σ h.objs.size = none := by
  cases q : σ h.objs.size with
  | none => rfl
  | some c => obtain ⟨o, ho⟩ := (H.cells _ c q).there; exact absurd (Heap.lt_size ho) (Nat.lt_irrefl _)

/-- a heap with more objects -/
theorem Step.grow {h h' : Heap} (_H : HOk B σ h) (k : ∀ b o, h.get? b = some o → h'.get? b = some o) : Step B σ h σ h' :=
  ⟨fun b o e n => ⟨n, o, k b o e, .refl o⟩, fun q b o e => k b o (q b o e), fun _ c q => ⟨c, q⟩⟩
theorem HOk.grow {h h' : Heap} (H : HOk B σ h) (k : ∀ b o, h.get? b = some o → h'.get? b = some o) : HOk B σ h' :=
  ⟨fun a c q => (H.cells a c q).mono (fun b o e _ => k b o e) fun o e => k a o e, H.fresh, fun b o e => k b o (H.base b o e)⟩
theorem St.grow {h' : Heap} {t : Nat} (H : HOk B σ s.heap) (k : ∀ b o, s.heap.get? b = some o → h'.get? b = some o) : St B σ s σ { s with heap := h', toks := t } :=
  ⟨.grow H k, H.grow k, rfl⟩
theorem St.push (H : HOk B σ s.heap) (o : Obj) (t : Nat) : St B σ s σ { s with heap := s.heap.push o, toks := t } :=
  .grow H (fun _ _ e => Heap.get?_push_of_some o e)

/-- a new object that enters the abstract heap -/
theorem St.enter {h' : Heap} {t : Nat} {a : Addr} {c : Cell} (H : HOk B σ s.heap) (k : ∀ b o, s.heap.get? b = some o → h'.get? b = some o)
    (ha : s.heap.get? a = none) (hc : CellRel B h' a c) : St B σ s (σ.set a c) { s with heap := h', toks := t } := by
  have fresh : B.get? a = none := by
    cases q : B.get? a with
    | none => rfl
    | some o => have := H.base a o q; rw [ha] at this; cases this
  refine ⟨⟨fun b o e n => ⟨?_, o, k b o e, .refl o⟩, fun q b o e => k b o (q b o e), fun b d q => ?_⟩, ⟨fun b c' q => ?_, fun b c' q => ?_, fun b o e => k b o (H.base b o e)⟩, rfl⟩
  · rw [Hp.set_ne _ _ (by rintro rfl; rw [ha] at e; cases e)]; exact n
  · by_cases hb : b = a
    · exact ⟨c, by rw [hb, Hp.set_self]⟩
    · exact ⟨d, by rw [Hp.set_ne _ _ hb]; exact q⟩
  · by_cases hb : b = a
    · subst hb; rw [Hp.set_self] at q; cases q; exact hc
    · rw [Hp.set_ne _ _ hb] at q
      exact (H.cells b c' q).mono (fun b o e _ => k b o e) fun o e => k b o e
  · by_cases hb : b = a
    · subst hb; exact fresh
    · rw [Hp.set_ne _ _ hb] at q; exact H.fresh b c' q
theorem HOk.out {h : Heap} (H : HOk B σ h) {a : Addr} (ha : h.get? a = none) : σ a = none := by
  cases q : σ a with
  | none => rfl
  | some c => obtain ⟨o, ho⟩ := (H.cells _ c q).there; rw [ha] at ho; cases ho
end

section
variable {G : Gl} {m : Md} {A : Around} {σ : Hp} {s : Shared} {E : Value → Shared → Prop}

theorem truth_ok {v : Value} {x : V} {Q : Bool → Prop} {R : Bool → Shared → Prop} (rv : Rel G.B s.heap v x) (h : truthP x Q) (k : ∀ b, Q b → R b s) : wpAny G.M A (truthy v) R E s := by
  cases rv <;> first | exact wpAny_truthy_bool (k _ h) | exact h.elim

theorem size_none (h : Heap) : h.get? h.objs.size = none := by
  cases q : h.get? h.objs.size with
  | none => rfl
  | some o => exact absurd (Heap.lt_size q) (Nat.lt_irrefl _)

theorem newList_ok {vs : List Value} {xs : List V} {Q : V → Hp → Prop} (H : HOk G.B σ s.heap) (r : RelL G.B s.heap vs xs) (h : newL xs σ Q) : wpAny G.M A (newList vs) (PV G.B σ s Q) E s := by
  have hk : ∀ b o, s.heap.get? b = some o → (s.heap.push { cls := .type "list", data := .seq vs.toArray }).get? b = some o := fun b o e => Heap.get?_push_of_some _ e
  refine wpAny_newObj_type ⟨.ref s.heap.objs.size, _, St.enter (c := .list xs) H hk (size_none _) ⟨vs, ⟨_, Heap.get?_push_size _ rfl⟩, r.mono fun b o e _ => hk b o e⟩, .ref _, h.2 _ H.top⟩ ?_
  show vs.toArray.size ≤ sizeLine
  rw [List.size_toArray, r.length]; exact h.1
theorem newTuple_ok {vs : List Value} {xs : List V} {Q : V → Hp → Prop} (H : HOk G.B σ s.heap) (r : RelL G.B s.heap vs xs) (hl : xs.length ≤ sizeLine) (h : Q (.tup xs) σ) : wpAny G.M A (newTuple vs) (PV G.B σ s Q) E s := by
  have hk : ∀ b o, s.heap.get? b = some o → (s.heap.push { cls := .type "tuple", data := .seq vs.toArray }).get? b = some o := fun b o e => Heap.get?_push_of_some _ e
  refine wpAny_newObj_type ⟨.tup xs, σ, St.push H _ _, .tup (IsTup.new _ _) (r.mono fun b o e _ => hk b o e), h⟩ ?_
  show vs.toArray.size ≤ sizeLine
  rw [List.size_toArray, r.length]; exact hl

def notSlice : PySem.Expr → Bool
  | .Slice .. => false
  | _ => true
theorem subscripted_plain {slice : PySem.Expr} (h : notSlice slice = true) (o i : Value) : subscripted slice false o i = operate [o, i] (getItem o i) := by
  cases slice <;> first | rfl | cases h

theorem idx_none {i : Int} {n : Nat} (h : i < -(n : Int) ∨ (n : Int) ≤ i) : seqIndex? i n = none := by
  unfold seqIndex?
  simp only []
  split <;> (rw [if_neg]; simp only [Bool.and_eq_true, decide_eq_true_eq]; omega)
theorem idx_ok {value sl : PySem.Expr} {v w : Value} {x y : V} {Q : V → Hp → Prop} (hsl : notSlice sl = true) (H : HOk G.B σ s.heap) (rv : Rel G.B s.heap v x) (rw' : Rel G.B s.heap w y) (h : idxP x y σ Q) :
    wpAny G.M A (subscriptTail value sl v w) (PV G.B σ s Q) E s := by
  unfold idxP at h
  split at h
  · rename_i a i
    obtain ⟨h0, h1, h2, q⟩ := h
    cases rv with | str _ t => cases rw' with | int _ u =>
    refine tail_any (typeIs_str s _ t) F.slot_str_getitem.lookup ?_ (subscripted_plain hsl _ _)
    have hi : i.toNat < a.length := by omega
    refine P.getItem_str (c := a.getD i.toNat 0) ?_ ?_ (pv_tok H _ (.str [_] _) q)
    · rw [decide_eq_false (by omega), decide_eq_false (by omega)]; rfl
    · rw [length_str]
      rw [seqIndex_of h0 h1]
      simp [hi]
  · rename_i a i
    obtain ⟨xs, j, v, hσ, hj, h0, h1, hx, q⟩ := h
    cases rv with | ref _ => cases rw' with | int _ u =>
    obtain ⟨vs, hl, r⟩ := H.cells a _ hσ
    have hl := hl.isList
    obtain ⟨v', hv', rv'⟩ := r.get hx
    refine tail_any hl.typeIs slot_list_getitem.lookup ?_ (subscripted_plain hsl _ _)
    by_cases hi : 0 ≤ i
    · have hlt : i < (xs.length : Int) := Classical.byContradiction fun hn => by rw [idx_none (.inr (by omega))] at hj; cases hj
      rw [seqIndex_of hi hlt] at hj
      cases hj
      exact wpAny_getItem_list hl hi (by omega) (by simpa using hv') (pv_same H rv' q)
    · have hge : -(xs.length : Int) ≤ i := Classical.byContradiction fun hn => by rw [idx_none (.inl (by omega))] at hj; cases hj
      rw [seqIndex_neg (by omega) hge] at hj
      cases hj
      exact wpAny_getItem_list_neg hl (by omega) (by rw [List.size_toArray, r.length]; exact hge) (by omega) (by rw [List.size_toArray, r.length]; simpa using hv') (pv_same H rv' q)
  · rename_i xs i
    obtain ⟨v, h0, h1, hx, q⟩ := h
    cases rw' with | int _ u =>
    cases rv with | lst hl r =>
    obtain ⟨v', hv', rv'⟩ := r.get hx
    have hl' : s.heap.IsList _ _ := let ⟨o, ho, x⟩ := hl; ⟨o, H.base _ _ ho, x⟩
    exact tail_any hl'.typeIs slot_list_getitem.lookup (wpAny_getItem_list hl' h0 (by omega) (by simpa using hv') (pv_same H rv' q)) (subscripted_plain hsl _ _)
  · rename_i xs i
    obtain ⟨j, v, hj, h0, h1, hx, q⟩ := h
    cases rw' with | int _ u =>
    cases rv with | tup ht r =>
    obtain ⟨v', hv', rv'⟩ := r.get hx
    exact tail_any ht.typeIs slot_tuple_getitem.lookup (getItem_tuple ht (by omega) (by omega) (by rw [List.size_toArray, r.length]; exact hj) (by simpa using hv') (pv_same H rv' q)) (subscripted_plain hsl _ _)
  · exact h.elim
end
end Mine

set_option autoImplicit false
set_option maxRecDepth 100000
namespace Mine
open PySem PyProof.Rows

section
variable {G : Gl} {m : Md} {A : Around} {σ : Hp} {s : Shared} {E : Value → Shared → Prop}

theorem clip_eq (o : Option Int) (d n : Nat) : (o.elim d (clipAt n)) = clampI o d n := by
  cases o with
  | none => rfl
  | some i =>
    show clipAt n i = clampI (some i) d n
    unfold clipAt clampI
    simp only []
    split <;> omega
theorem clampI_le (o : Option Int) (d n : Nat) (hd : d ≤ n) : clampI o d n ≤ n := by
  unfold clampI
  split
  · exact hd
  · split <;> omega
theorem slice_eq {α : Type} (xs : List α) (lo hi : Option Int) : (xs.drop (clampI lo 0 xs.length)).take (clampI hi xs.length xs.length - clampI lo 0 xs.length) = slice xs lo hi := by
  unfold slice
  rw [List.drop_take]
theorem strIdx (lo hi : Option Int) (n : Nat) : Builtin.Str.strSliceIndices lo hi 1 n = (List.range (clampI hi n n - clampI lo 0 n)).map (clampI lo 0 n + ·) := by
  rw [← sliceRange_one]
  unfold Builtin.Str.strSliceIndices
  simp only [show (1 : Int) > 0 by decide, if_true]
  congr 1
  · cases lo with
    | none => rfl
    | some i => simp only [clampI]; split <;> omega
  · cases hi with
    | none => rfl
    | some i => simp only [clampI]; split <;> omega
theorem slice_full {α : Type} (xs : List α) (lo hi : Option Int) (h : clampI hi xs.length xs.length - clampI lo 0 xs.length = xs.length) : slice xs lo hi = xs := by
  have h1 := clampI_le hi xs.length xs.length (Nat.le_refl _)
  have h2 := clampI_le lo 0 xs.length (Nat.zero_le _)
  unfold slice
  by_cases h0 : xs.length = 0
  · have : xs = [] := List.length_eq_zero_iff.mp h0
    subst this; simp
  · have e1 : clampI lo 0 xs.length = 0 := by omega
    have e2 : clampI hi xs.length xs.length = xs.length := by omega
    rw [e1, e2]; simp
theorem partOf (i : Option Int) (t : Tok) : (i.map fun x => (x, t)).map (·.1) = i := by cases i <;> rfl

def PI (vl : Value) (o : Option Int) : Prop := IsPart vl o
theorem part_val {vl : Value} {o : Option Int} (p : IsPart vl o) : ∃ l : Option (Int × Tok), vl = partValue l ∧ l.map (·.1) = o := by
  cases p with
  | none => exact ⟨none, rfl, rfl⟩
  | int i t => exact ⟨some (i, t), rfl, rfl⟩

theorem slice_str_ok {a : List Nat} {t : Tok} {sl : Addr} {vl vu : Value} {lo hi : Option Int} {Q : V → Hp → Prop} (H : HOk G.B σ s.heap) (pl : IsPart vl lo) (pu : IsPart vu hi)
    (hs : ∃ o, s.heap.get? sl = some o ∧ o.cls = .type "slice" ∧ o.data = .fields #[vl, vu, .none]) (h : slcP (.str a) lo hi σ Q) : wpAny G.M A (getItem (.str ⟨a.toArray⟩ t) (.ref sl)) (PV G.B σ s Q) E s := by
  obtain ⟨l, rfl, el⟩ := part_val pl
  obtain ⟨u, rfl, eu⟩ := part_val pu
  refine wpAny_getItem_str_slice (l := l) (u := u) (st := none) hs rfl ?_
  have hp : slicePicked ⟨a.toArray⟩ l u none = (List.range (clampI hi a.length a.length - clampI lo 0 a.length)).map (clampI lo 0 a.length + ·) := by
    unfold slicePicked
    rw [el, eu, length_str]
    exact strIdx lo hi a.length
  unfold sliceMade
  rw [hp, length_str]
  obtain ⟨hl, q⟩ := h
  split
  · rename_i hc
    have hc' : clampI hi a.length a.length - clampI lo 0 a.length = a.length := by simpa using hc
    rw [slice_full a lo hi hc'] at q
    exact pv_same H (.str _ _) q
  · have e : ((List.range (clampI hi a.length a.length - clampI lo 0 a.length)).map (clampI lo 0 a.length + ·)).filterMap (fun x => (⟨a.toArray⟩ : Str).cps[x]?) = slice a lo hi := by
      have := pick_run a.toArray (clampI lo 0 a.length) (clampI hi a.length a.length - clampI lo 0 a.length)
      rw [← slice_eq]
      simpa using this
    rw [e]
    refine made_str H ?_ q
    refine Nat.le_trans ?_ hl
    unfold slice
    simp
    omega

theorem inst_ok {v w : Value} {x t : V} {b : Bool} {Q : V → Hp → Prop} (H : HOk G.B σ s.heap) (rv : Rel G.B s.heap v x) (rt : Rel G.B s.heap w t) (hb : instB σ x t = some b) (q : Q (.bool b) σ) :
    wpAny G.M A (call (.builtin "isinstance") [v, w]) (PV G.B σ s Q) E s := by
  unfold instB at hb
  split at hb
  · rename_i T
    cases rt
    have q0 := pv_same H (.bool b) q
    have q1 := pv_tok H (s.toks + 1) (.bool b) q
    cases hk : kindV σ x with
    | none => rw [hk] at hb; cases hb
    | some k =>
      rw [hk] at hb
      simp only [] at hb
      cases x <;> first | (cases hk; done) | skip
      · cases rv; cases hk
        unfold instK at hb
        split at hb <;> cases hb <;> first
          | exact IsiPair.NoneType_str q1 | exact IsiPair.NoneType_int q1 | exact IsiPair.NoneType_bool q1 | exact IsiPair.NoneType_tuple q1 | exact IsiPair.NoneType_list q1
          | contradiction
      · cases rv; cases hk
        unfold instK at hb
        split at hb <;> cases hb <;> first
          | exact IsiPair.bool_str q1 | exact IsiPair.bool_int q0 | exact IsiPair.bool_bool q0 | exact IsiPair.bool_tuple q1 | exact IsiPair.bool_list q1
          | contradiction
      · cases rv; cases hk
        unfold instK at hb
        split at hb <;> cases hb <;> first
          | exact IsiPair.int_str q1 | exact IsiPair.int_int q0 | exact IsiPair.int_bool q1 | exact IsiPair.int_tuple q1 | exact IsiPair.int_list q1
          | contradiction
      · cases rv; cases hk
        unfold instK at hb
        split at hb <;> cases hb <;> first
          | exact IsiPair.str_str q0 | exact IsiPair.str_int q1 | exact IsiPair.str_bool q1 | exact IsiPair.str_tuple q1 | exact IsiPair.str_list q1
          | contradiction
      · cases hk
        cases rv with | tup ht _ =>
        obtain ⟨o, ho, hc, _⟩ := ht
        unfold instK at hb
        split at hb <;> cases hb <;> first
          | exact IsiPair.tuple_str ho hc q1 | exact IsiPair.tuple_int ho hc q1 | exact IsiPair.tuple_bool ho hc q1 | exact IsiPair.tuple_tuple ho hc q0 | exact IsiPair.tuple_list ho hc q1
          | contradiction
      · rename_i a
        cases rv
        cases hσ : σ a with
        | none => simp only [kindV, hσ] at hk; cases hk
        | some c =>
          cases c <;> simp only [kindV, hσ] at hk <;> first | (cases hk; done) | skip
          cases hk
          obtain ⟨us, ⟨n, ho⟩, _⟩ := H.cells a _ hσ
          have hc : ({ cls := .type "list", data := .seq us.toArray n } : Obj).cls = .type "list" := rfl
          unfold instK at hb
          split at hb <;> cases hb <;> first
            | exact IsiPair.list_str ho rfl q1 | exact IsiPair.list_int ho rfl q1 | exact IsiPair.list_bool ho rfl q1 | exact IsiPair.list_tuple ho rfl q1 | exact IsiPair.list_list ho rfl q0
            | contradiction
  · cases hb

theorem blt_ok {b : Blt} {vs : List Value} {xs : List V} {Q : V → Hp → Prop} (H : HOk G.B σ s.heap) (r : RelL G.B s.heap vs xs) (h : bltP b xs σ Q) : wpAny G.M A (call b.val vs) (PV G.B σ s Q) E s := by
  unfold bltP at h
  split at h
  · rename_i a
    cases r with | cons rv r => cases r with | nil => cases rv with | str _ t =>
    exact P.len_str (by rw [length_str]; omega) (by rw [length_str]; exact pv_tok H _ (.int _ _) h.2)
  · rename_i a
    cases r with | cons rv r => cases r with | nil => cases rv with | ref _ =>
    obtain ⟨ys, hσ, hl, q⟩ := h
    obtain ⟨us, hu, ru⟩ := H.cells a _ hσ
    have hu := hu.isList
    have hz : us.toArray.size = ys.length := by rw [List.size_toArray, ru.length]
    exact len_list hu (by rw [hz]; omega) (by rw [hz]; exact pv_tok H _ (.int _ _) q)
  · cases r with | cons rv r => cases r with | nil => cases rv with | lst hl ru =>
    have hl' : s.heap.IsList _ _ := let ⟨o, ho, x⟩ := hl; ⟨o, H.base _ _ ho, x⟩
    exact len_list hl' (by rw [List.size_toArray, ru.length]; omega) (by rw [List.size_toArray, ru.length]; exact pv_tok H _ (.int _ _) h.2)
  · cases r with | cons rv r => cases r with | cons rt r => cases r with | nil =>
    obtain ⟨b, hb, q⟩ := h
    exact inst_ok H rv rt hb q
  · cases r with | cons rv r => cases r with | nil => cases rv with | int _ t =>
    exact call_range_1 ⟨_, σ, St.push H _ _, .rng (IsRange.new _ _ _ _ _ _ _) (by omega) (by omega) h.1 h.2.1, h.2.2⟩
  · cases r with | cons rv r => cases r with | cons rw' r => cases r with | nil => cases rv with | int _ t => cases rw' with | int _ u =>
    exact call_range_2 ⟨_, σ, St.push H _ _, .rng (IsRange.new _ _ _ _ _ _ _) h.1 h.2.1 h.2.2.1 h.2.2.2.1, h.2.2.2.2⟩
  · cases r with | cons rv r => cases r with | nil => cases rv with | tup ht ru =>
    exact len_tuple ht (by rw [List.size_toArray, ru.length]; omega) (by rw [List.size_toArray, ru.length]; exact pv_tok H _ (.int _ _) h.2)
  · rename_i a
    cases r with | cons rv r => cases r with | nil => cases rv with | ref _ =>
    obtain ⟨ys, hσ, hl, q⟩ := h
    obtain ⟨us, hu, ru⟩ := H.cells a _ hσ
    have hu := hu.isList
    refine call_tuple_list hu (fun h' hk => ?_) (by rw [List.size_toArray, ru.length]; exact hl)
    have S₁ : St G.B σ s σ { s with heap := h', toks := s.toks } := St.grow H hk
    have S₂ := S₁.trans (St.push S₁.ok { cls := .type "tuple", data := .seq us.toArray } s.toks)
    exact ⟨_, σ, S₂, .tup ⟨_, Heap.get?_push_size _ rfl, rfl, _, rfl⟩ (ru.mono (S₂.step.frozen H)), q⟩
  · cases r with | cons rv r => cases r with | nil => cases rv with | bool _ =>
    exact call_int_bool (pv_tok H _ (.int _ _) h)
  · exact h.elim

/-! ## methods of built-in types -/
theorem mth_get {nm : Mth} {v : Value} {x : V} {pl : Sem Bool} {R : Value × List Value → Shared → Prop} (H : HOk G.B σ s.heap) (rv : Rel G.B s.heap v x) (h : mthTy nm x σ) (k : R (.builtin nm.id, [v]) s) :
    wpAny G.M A (getMethod v nm.nm pl) R E s := by
  unfold mthTy at h
  split at h
  · cases rv; show wpAny _ _ (getMethod _ ("startswith" : Str) _) _ _ _; exact GM.startswith k
  · rename_i a
    obtain ⟨xs, hσ⟩ := h
    cases rv
    obtain ⟨vs, hl, r⟩ := H.cells a _ hσ
    show wpAny _ _ (getMethod _ ("append" : Str) _) _ _ _
    obtain ⟨n, ho⟩ := hl
    exact Calls.getMethod_list_append ho rfl rfl k
  · exact h.elim
theorem starts_eq (a b : List Nat) : Txt.startswith ⟨a.toArray⟩ ⟨b.toArray⟩ = b.isPrefixOf a := by
  unfold Txt.startswith
  rw [length_str, length_str, StrLaws.subAt_eq, length_str]
  simp only [Nat.zero_add, List.drop_zero]
  rw [Bool.eq_iff_iff]
  simp only [Bool.and_eq_true, decide_eq_true_eq, beq_iff_eq, List.isPrefixOf_iff_prefix]
  constructor
  · rintro ⟨_, h⟩; exact ⟨a.drop b.length, by have := List.take_append_drop b.length a; rw [h] at this; exact this⟩
  · rintro ⟨c, rfl⟩; simp
/-- an object of the abstract heap is changed -/
theorem St.change {B : Heap} {h' : Heap} {t : Nat} {a : Addr} {c c' : Cell} (H : HOk B σ s.heap) (hc : σ a = some c) (hs : Heap.SameBut a s.heap h') (hc' : CellRel B h' a c') : St B σ s (σ.set a c') { s with heap := h', toks := t } := by
  have hB := H.fresh a c hc
  have frz : Frozen s.heap h' := fun b o e q => by
    by_cases hb : b = a
    · subst hb; exact absurd q ((H.cells b c hc).cls e)
    · rw [hs.2 b hb]; exact e
  have base : ∀ b o, B.get? b = some o → h'.get? b = some o := fun b o e => by
    rw [hs.2 b (by rintro rfl; rw [hB] at e; cases e)]; exact H.base b o e
  refine ⟨⟨fun b o e n => ?_, fun _ => base, fun b d q => ?_⟩, ⟨fun b d q => ?_, fun b d q => ?_, base⟩, rfl⟩
  · have hb : b ≠ a := by rintro rfl; rw [hc] at n; cases n
    exact ⟨by rw [Hp.set_ne _ _ hb]; exact n, o, by rw [hs.2 b hb]; exact e, .refl o⟩
  · by_cases hb : b = a
    · exact ⟨c', by rw [hb, Hp.set_self]⟩
    · exact ⟨d, by rw [Hp.set_ne _ _ hb]; exact q⟩
  · by_cases hb : b = a
    · subst hb; rw [Hp.set_self] at q; cases q; exact hc'
    · rw [Hp.set_ne _ _ hb] at q
      exact (H.cells b d q).mono frz fun o e => by rw [hs.2 b hb]; exact e
  · by_cases hb : b = a
    · subst hb; exact hB
    · rw [Hp.set_ne _ _ hb] at q; exact H.fresh b d q
theorem mth_ok {nm : Mth} {v : Value} {vs : List Value} {x : V} {xs : List V} {Q : V → Hp → Prop} (H : HOk G.B σ s.heap) (rv : Rel G.B s.heap v x) (r : RelL G.B s.heap vs xs) (h : mthP nm x xs σ Q) :
    wpAny G.M A (call (.builtin nm.id) (v :: vs)) (PV G.B σ s Q) E s := by
  unfold mthP at h
  split at h
  · cases rv with | str _ t => cases r with | cons r1 r => cases r with | nil => cases r1 with | str _ u =>
    exact SC.startswith (by rw [starts_eq]; exact pv_same H (.bool _) h)
  · rename_i a x
    cases rv; cases r with | cons r1 r => cases r with | nil =>
    obtain ⟨ys, hσ, hl, q⟩ := h
    obtain ⟨us, hu, ru⟩ := H.cells a _ hσ
    refine wpAny_list_append_plain hu (fun h' hl' hs' => ?_) (by rw [List.size_toArray, ru.length]; exact hl)
    have frz : Frozen s.heap h' := fun b o e q' => by
      by_cases hb : b = a
      · subst hb; exact absurd q' ((H.cells b _ hσ).cls e)
      · rw [hs'.2 b hb]; exact e
    exact ⟨.none, _, St.change (c' := .list (ys ++ [x])) (t := s.toks) H hσ hs' ⟨us ++ [_], by simpa using hl', (ru.mono frz).append (.cons (r1.mono frz) .nil)⟩, .none, q⟩
  · exact h.elim
end
end Mine

set_option autoImplicit false
set_option maxRecDepth 100000
namespace Mine
open PySem PyProof.Rows

/-! ## what the check tells of the row's syntax -/
section
variable {sc : Scope} {ns : List Str} {e : PySem.Expr}
theorem and2 {a b : Bool} (h : (a && b) = true) : a = true ∧ b = true := Bool.and_eq_true_iff.mp h
theorem inv_none (h : chkE sc ns .cNone e = true) : ∃ k p, e = .Constant .none k p := by
  cases e <;> first | exact absurd h Bool.false_ne_true | skip
  rename_i c k p; cases c <;> first | exact absurd h Bool.false_ne_true | exact ⟨k, p, rfl⟩
theorem inv_bool {b : Bool} (h : chkE sc ns (.cBool b) e = true) : ∃ k p, e = .Constant (.bool b) k p := by
  cases e <;> first | exact absurd h Bool.false_ne_true | skip
  rename_i c k p; cases c <;> first | exact absurd h Bool.false_ne_true | skip
  rename_i c; have : b = c := eq_of_beq h; subst this; exact ⟨k, p, rfl⟩
theorem inv_int {i : Int} (h : chkE sc ns (.cInt i) e = true) : ∃ k p, e = .Constant (.int i) k p := by
  cases e <;> first | exact absurd h Bool.false_ne_true | skip
  rename_i c k p; cases c <;> first | exact absurd h Bool.false_ne_true | skip
  rename_i c; have : i = c := eq_of_beq h; subst this; exact ⟨k, p, rfl⟩
theorem inv_str {a : List Nat} (h : chkE sc ns (.cStr a) e = true) : ∃ k p, e = .Constant (.str ⟨a.toArray⟩) k p := by
  cases e <;> first | exact absurd h Bool.false_ne_true | skip
  rename_i c k p; cases c <;> first | exact absurd h Bool.false_ne_true | skip
  rename_i c
  have h' : c.cps.toList = a := eq_of_beq h
  obtain ⟨cs⟩ := c
  have : cs = a.toArray := by rw [← h']
  subst this; exact ⟨k, p, rfl⟩
theorem inv_var {i : Nat} (h : chkE sc ns (.var i) e = true) : ∃ x p, e = .Name x p ∧ ns[i]? = some x ∧ (sc.names.lookup x = some .local ∨ sc.names.lookup x = some .cell) ∧ (x == ("__debug__" : Str)) = false := by
  cases e <;> first | exact absurd h Bool.false_ne_true | skip
  rename_i x p
  have h' : nameOK sc ns i x = true := h
  unfold nameOK at h'
  obtain ⟨h1, h2⟩ := and2 h'
  obtain ⟨h3, h4⟩ := and2 h1
  refine ⟨x, p, rfl, eq_of_beq h3, (Bool.or_eq_true_iff.mp h4).imp (fun q => eq_of_beq q) (fun q => eq_of_beq q), by simpa using h2⟩
theorem globOK_inv {x : Str} (h : globOK sc x = true) : sc.names.lookup x = some .globalImplicit ∧ (x == ("__debug__" : Str)) = false := by
  unfold globOK at h
  obtain ⟨h1, h2⟩ := and2 h
  exact ⟨eq_of_beq h1, by simpa using h2⟩
theorem inv_glob {x : Str} (h : chkE sc ns (.glob x) e = true) : ∃ p, e = .Name x p ∧ globOK sc x = true := by
  cases e <;> first | exact absurd h Bool.false_ne_true | skip
  rename_i y p
  obtain ⟨h1, h2⟩ := and2 (show (x == y && globOK sc y) = true from h)
  have : x = y := eq_of_beq h1
  subst this; exact ⟨p, rfl, h2⟩
theorem op_of {a b : Operator} (h : (a == b) = true) : a = b := eq_of_beq h
theorem inv_bin {op : Operator} {a b : CE} (h : chkE sc ns (.bin op a b) e = true) : ∃ l r p, e = .BinOp l op r p ∧ chkE sc ns a l = true ∧ chkE sc ns b r = true := by
  cases e <;> first | exact absurd h Bool.false_ne_true | skip
  rename_i l o r p
  obtain ⟨h1, h3⟩ := and2 (show (op == o && chkE sc ns a l && chkE sc ns b r) = true from h)
  obtain ⟨h1, h2⟩ := and2 h1
  have := op_of h1
  subst this; exact ⟨l, r, p, rfl, h2, h3⟩
theorem inv_usub {a : CE} (h : chkE sc ns (.usub a) e = true) : ∃ x p, e = .UnaryOp .USub x p ∧ chkE sc ns a x = true := by
  cases e <;> first | exact absurd h Bool.false_ne_true | skip
  rename_i o x p
  cases o <;> first | exact absurd h Bool.false_ne_true | exact ⟨x, p, rfl, h⟩
theorem inv_nt {a : CE} (h : chkE sc ns (.nt a) e = true) : ∃ x p, e = .UnaryOp .Not x p ∧ chkE sc ns a x = true := by
  cases e <;> first | exact absurd h Bool.false_ne_true | skip
  rename_i o x p
  cases o <;> first | exact absurd h Bool.false_ne_true | exact ⟨x, p, rfl, h⟩
theorem inv_bop {t : Bool} {xs : List CE} (h : chkE sc ns (.bop t xs) e = true) : ∃ es p, e = .BoolOp (if t then .And else .Or) es p ∧ xs ≠ [] ∧ chkEs sc ns xs es = true := by
  cases e <;> first | exact absurd h Bool.false_ne_true | skip
  rename_i o es p
  obtain ⟨h1, h3⟩ := and2 (show ((o == if t then .And else .Or) && !xs.isEmpty && chkEs sc ns xs es) = true from h)
  obtain ⟨h1, h2⟩ := and2 h1
  have : o = if t then .And else .Or := eq_of_beq h1
  subst this
  exact ⟨es, p, rfl, by rintro rfl; simp at h2, h3⟩
theorem inv_cmp {op : CmpOp} {a b : CE} (h : chkE sc ns (.cmp a op b) e = true) : ∃ l r p, e = .Compare l [op] [r] p ∧ behindInMarks op r = false ∧ chkE sc ns a l = true ∧ chkE sc ns b r = true := by
  cases e <;> first | exact absurd h Bool.false_ne_true | skip
  rename_i l os rs p
  match os, rs, h with
  | [o], [r], h =>
    obtain ⟨h1, h4⟩ := and2 (show (op == o && !behindInMarks o r && chkE sc ns a l && chkE sc ns b r) = true from h)
    obtain ⟨h1, h3⟩ := and2 h1
    obtain ⟨h1, h2⟩ := and2 h1
    have : op = o := eq_of_beq h1
    subst this
    exact ⟨l, r, p, rfl, by simpa using h2, h3, h4⟩
  | [], _, h => exact absurd h Bool.false_ne_true
  | [_], [], h => exact absurd h Bool.false_ne_true
  | [_], _ :: _ :: _, h => exact absurd h Bool.false_ne_true
  | _ :: _ :: _, _, h => exact absurd h Bool.false_ne_true
theorem inv_ite {c a b : CE} (h : chkE sc ns (.ite c a b) e = true) : ∃ t x y p, e = .IfExp t x y p ∧ chkE sc ns c t = true ∧ chkE sc ns a x = true ∧ chkE sc ns b y = true := by
  cases e <;> first | exact absurd h Bool.false_ne_true | skip
  rename_i t x y p
  obtain ⟨h1, h3⟩ := and2 (show (chkE sc ns c t && chkE sc ns a x && chkE sc ns b y) = true from h)
  obtain ⟨h1, h2⟩ := and2 h1
  exact ⟨t, x, y, p, rfl, h1, h2, h3⟩
theorem inv_list {xs : List CE} (h : chkE sc ns (.list xs) e = true) : ∃ es p, e = .List es p ∧ chkEs sc ns xs es = true := by
  cases e <;> first | exact absurd h Bool.false_ne_true | skip
  rename_i es p
  exact ⟨es, p, rfl, h⟩
theorem inv_tuple {xs : List CE} (h : chkE sc ns (.tuple xs) e = true) : ∃ es k p, e = .Tuple es k p ∧ chkEs sc ns xs es = true := by
  cases e <;> first | exact absurd h Bool.false_ne_true | skip
  rename_i es k p
  exact ⟨es, k, p, rfl, h⟩
theorem inv_idx {a i : CE} (h : chkE sc ns (.idx a i) e = true) : ∃ v sl p, e = .Subscript v sl p ∧ chkE sc ns a v = true ∧ chkE sc ns i sl = true := by
  cases e <;> first | exact absurd h Bool.false_ne_true | skip
  rename_i v sl p
  obtain ⟨h1, h2⟩ := and2 (show (chkE sc ns a v && chkE sc ns i sl) = true from h)
  exact ⟨v, sl, p, rfl, h1, h2⟩
theorem inv_slc {a : CE} {lo hi : Option CE} (h : chkE sc ns (.slc a lo hi) e = true) : ∃ v l u q p, e = .Subscript v (.Slice l u none q) p ∧ chkE sc ns a v = true ∧ chkO sc ns lo l = true ∧ chkO sc ns hi u = true := by
  cases e <;> first | exact absurd h Bool.false_ne_true | skip
  rename_i v sl p
  cases sl <;> first | exact absurd h Bool.false_ne_true | skip
  rename_i l u st q
  cases st <;> first | exact absurd h Bool.false_ne_true | skip
  obtain ⟨h1, h3⟩ := and2 (show (chkE sc ns a v && chkO sc ns lo l && chkO sc ns hi u) = true from h)
  obtain ⟨h1, h2⟩ := and2 h1
  exact ⟨v, l, u, q, p, rfl, h1, h2, h3⟩
theorem inv_callF {f : Str} {args : List CE} (h : chkE sc ns (.callF f args) e = true) : ∃ q es p, e = .Call (.Name f q) es [] p ∧ globOK sc f = true ∧ chkEs sc ns args es = true := by
  cases e <;> first | exact absurd h Bool.false_ne_true | skip
  rename_i g es ks p
  cases g <;> first | exact absurd h Bool.false_ne_true | skip
  rename_i g q
  cases ks <;> first | exact absurd h Bool.false_ne_true | skip
  obtain ⟨h1, h3⟩ := and2 (show (f == g && globOK sc g && chkEs sc ns args es) = true from h)
  obtain ⟨h1, h2⟩ := and2 h1
  have : f = g := eq_of_beq h1
  subst this
  exact ⟨q, es, p, rfl, h2, h3⟩
theorem inv_callB {b : Blt} {args : List CE} (h : chkE sc ns (.callB b args) e = true) : ∃ q es p, e = .Call (.Name b.nm q) es [] p ∧ globOK sc b.nm = true ∧ chkEs sc ns args es = true := by
  cases e <;> first | exact absurd h Bool.false_ne_true | skip
  rename_i g es ks p
  cases g <;> first | exact absurd h Bool.false_ne_true | skip
  rename_i g q
  cases ks <;> first | exact absurd h Bool.false_ne_true | skip
  obtain ⟨h1, h3⟩ := and2 (show (b.nm == g && globOK sc g && chkEs sc ns args es) = true from h)
  obtain ⟨h1, h2⟩ := and2 h1
  have : b.nm = g := eq_of_beq h1
  subst this
  exact ⟨q, es, p, rfl, h2, h3⟩
theorem inv_meth {o : CE} {nm : Mth} {args : List CE} (h : chkE sc ns (.meth o nm args) e = true) :
    ∃ v ap es p, e = .Call (.Attribute v nm.nm ap) es [] p ∧ notSuper v = true ∧ (ap.endLine == p.line) = true ∧ chkE sc ns o v = true ∧ chkEs sc ns args es = true ∧ es.length < 8 := by
  cases e <;> first | exact absurd h Bool.false_ne_true | skip
  rename_i g es ks p
  cases g <;> first | exact absurd h Bool.false_ne_true | skip
  rename_i v n ap
  cases ks <;> first | exact absurd h Bool.false_ne_true | skip
  obtain ⟨h1, h6⟩ := and2 (show (n == nm.nm && notSuper v && ap.endLine == p.line && chkE sc ns o v && chkEs sc ns args es && decide (es.length < 8)) = true from h)
  obtain ⟨h1, h5⟩ := and2 h1
  obtain ⟨h1, h4⟩ := and2 h1
  obtain ⟨h1, h3⟩ := and2 h1
  obtain ⟨h1, h2⟩ := and2 h1
  have : n = nm.nm := eq_of_beq h1
  subst this
  exact ⟨v, ap, es, p, rfl, h2, h3, h4, h5, of_decide_eq_true h6⟩
theorem chk_notSlice {c : CE} (h : chkE sc ns c e = true) : notSlice e = true := by
  cases e <;> first | rfl | (exfalso; cases c <;> exact absurd h Bool.false_ne_true)
def notStar : PySem.Expr → Bool
  | .Starred .. => false
  | _ => true
theorem chk_notStar {c : CE} (h : chkE sc ns c e = true) : notStar e = true := by
  cases e <;> first | rfl | (exfalso; cases c <;> exact absurd h Bool.false_ne_true)
end

theorem starEach_cons {e : PySem.Expr} (h : notStar e = true) (es : List PySem.Expr) (env : Env) : starEach (e :: es) env = (false, eval e env) :: starEach es env := by
  cases e <;> first | rfl | cases h
theorem back_star {sc : Scope} {ns : List Str} (pos : Pos) (env : Env) : ∀ {cs : List CE} {es : List PySem.Expr}, chkEs sc ns cs es = true → backTo pos (starEach es env) = es.map fun e => (false, eval e env)
  | [], [], _ => rfl
  | [], _ :: _, h => absurd h Bool.false_ne_true
  | _ :: _, [], h => absurd h Bool.false_ne_true
  | c :: cs, e :: es, h => by
    obtain ⟨h1, h2⟩ := and2 (show (chkE sc ns c e && chkEs sc ns cs es) = true from h)
    rw [starEach_cons (chk_notStar h1)]
    show (false, _) :: backTo pos (starEach es env) = _
    rw [back_star pos env h2]
    rfl

section
variable {M : Model} {A : Around} {E : Value → Shared → Prop} {s : Shared}
theorem evalArgs_list {f : Value} {args : List (Bool × Sem Value)} {Q : Args → Shared → Prop} (hp : args.all (fun x => !x.1) = true) (h : wpAny M A (spliced args) (fun vs s' => Q ⟨vs, []⟩ s') E s) :
    wpAny M A (evalArgs f true args []) Q E s := by
  cases args with
  | nil =>
    unfold evalArgs
    show wpAny M A (spliced [] >>= _) Q E s
    refine wpAny_bind (wpAny_mono h (fun vs s' h' => ?_) fun _ _ x => x)
    refine wpAny_bind (wpAny_pure ?_)
    refine wpAny_holding ?_
    exact wpAny_bind (wpAny_pure (wpAny_bind (wpAny_pure (wpAny_pure h'))))
  | cons x rest =>
    obtain ⟨b, t⟩ := x
    cases b with
    | true => simp at hp
    | false => exact Calls.evalArgs_plain h

theorem all_false (es : List PySem.Expr) (env : Env) : (es.map fun e => (false, eval e env)).all (fun x => !x.1) = true := by simp
theorem any_false (es : List PySem.Expr) (env : Env) : (es.map fun e => (false, eval e env)).any (·.1) = false := by simp
theorem call_fn {pos : Pos} {a : Addr} {first : List Value} {args : List (Bool × Sem Value)} {Q : Value → Shared → Prop} {o : Obj} {fd : FuncData} (hp : args.all (fun x => !x.1) = true)
    (h : wpAny M A (spliced args) (fun vs s₁ => (s₁.heap.get? a = some o ∧ o.data = .func fd) ∧ wpAny M A (call (.ref a) (first ++ vs)) Q E s₁) E s) : wpAny M A (callWith pos (.ref a) first args []) Q E s :=
  Calls.callWith_function (evalArgs_list hp h)
theorem call_bi {pos : Pos} {id : String} {first : List Value} {args : List (Bool × Sem Value)} {Q : Value → Shared → Prop} (hp : args.all (fun x => !x.1) = true) (ha : args.any (·.1) = false)
    (h : wpAny M A (spliced args) (fun vs s₁ => wpAny M A (call (.builtin id) (first ++ vs)) Q E s₁) E s) : wpAny M A (callWith pos (.builtin id) first args []) Q E s :=
  Calls.callWith_builtin ha (evalArgs_list hp h)
theorem call_ty {pos : Pos} {T : String} {first : List Value} {args : List (Bool × Sem Value)} {Q : Value → Shared → Prop} (hp : args.all (fun x => !x.1) = true) (ha : args.any (·.1) = false)
    (h : wpAny M A (spliced args) (fun vs s₁ => wpAny M A (call (.type T) (first ++ vs)) Q E s₁) E s) : wpAny M A (callWith pos (.type T) first args []) Q E s :=
  PyProof.Rows.callWith_type ha (evalArgs_list hp h)
theorem base_ok {o : PySem.Expr} {name : Str} {env : Env} {Q : Value → Shared → Prop} (hn : notSuper o = true) (h : wpAny M A (eval o env) Q E s) : wpAny M A (attributeBase o name env (eval o env)) Q E s := by
  unfold attributeBase
  split
  · rename_i id p pos
    have : (id != ("super" : Str)) = true := by simpa [notSuper, bne] using hn
    rw [this]
    simp only [Bool.true_or, if_true]
    exact h
  · exact h
end

/-! ## soundness of expressions -/
def SE (G : Gl) (c : CE) : Prop := ∀ (m : Md) (sc : Scope) (ns : List Str) (e : PySem.Expr), chkE sc ns c e = true → ∀ (A : Around) (env : Env) (ρ : List V) (σ : Hp) (s : Shared) (Q : V → Hp → Prop) (X : Value → Hp → Prop),
  env.scope = sc → EOk G m A env ns ρ σ s → wpE G m c ρ σ Q X → wpAny G.M A (eval e env) (PV G.B σ s Q) (EX G.B σ s A env.frame X) s
def ST (G : Gl) (c : CE) : Prop := ∀ (m : Md) (sc : Scope) (ns : List Str) (e : PySem.Expr), chkE sc ns c e = true → ∀ (A : Around) (env : Env) (ρ : List V) (σ : Hp) (s : Shared) (Q : Bool → Hp → Prop) (X : Value → Hp → Prop),
  env.scope = sc → EOk G m A env ns ρ σ s → wpE G m c ρ σ (fun x σ' => truthP x fun b => Q b σ') X → wpAny G.M A (isTrue e env (eval e env)) (PB G.B σ s Q) (EX G.B σ s A env.frame X) s

section
variable {G : Gl} {m : Md} {A : Around} {σ : Hp} {s : Shared}
/-- one tree, then what follows, seen from where we began -/
theorem chain {σ₁ : Hp} {s₁ : Shared} {oL : Option Addr} {X : Value → Hp → Prop} {t : Sem Value} {Q : V → Hp → Prop} {R : Value → Shared → Prop} (S : St G.B σ s σ₁ s₁)
    (h : wpAny G.M A t (PV G.B σ₁ s₁ Q) (EX G.B σ₁ s₁ A oL X) s₁)
    (k : ∀ v x σ₂ s₂, St G.B σ s σ₂ s₂ → St G.B σ₁ s₁ σ₂ s₂ → Rel G.B s₂.heap v x → Q x σ₂ → R v s₂) : wpAny G.M A t R (EX G.B σ s A oL X) s₁ :=
  wpAny_mono h (fun v s₂ ⟨x, σ₂, S', r, q⟩ => k v x σ₂ s₂ (S.trans S') S' r q) fun _ _ e => EX.from S e
theorem chainB {σ₁ : Hp} {s₁ : Shared} {oL : Option Addr} {X : Value → Hp → Prop} {t : Sem Bool} {Q : Bool → Hp → Prop} {R : Bool → Shared → Prop} (S : St G.B σ s σ₁ s₁)
    (h : wpAny G.M A t (PB G.B σ₁ s₁ Q) (EX G.B σ₁ s₁ A oL X) s₁)
    (k : ∀ v σ₂ s₂, St G.B σ s σ₂ s₂ → St G.B σ₁ s₁ σ₂ s₂ → Q v σ₂ → R v s₂) : wpAny G.M A t R (EX G.B σ s A oL X) s₁ :=
  wpAny_mono h (fun v s₂ ⟨σ₂, S', q⟩ => k v σ₂ s₂ (S.trans S') S' q) fun _ _ e => EX.from S e
theorem chainL {σ₁ : Hp} {s₁ : Shared} {oL : Option Addr} {X : Value → Hp → Prop} {t : Sem (List Value)} {Q : List V → Hp → Prop} {R : List Value → Shared → Prop} (S : St G.B σ s σ₁ s₁)
    (h : wpAny G.M A t (PL G.B σ₁ s₁ Q) (EX G.B σ₁ s₁ A oL X) s₁)
    (k : ∀ v x σ₂ s₂, St G.B σ s σ₂ s₂ → St G.B σ₁ s₁ σ₂ s₂ → RelL G.B s₂.heap v x → Q x σ₂ → R v s₂) : wpAny G.M A t R (EX G.B σ s A oL X) s₁ :=
  wpAny_mono h (fun v s₂ ⟨x, σ₂, S', r, q⟩ => k v x σ₂ s₂ (S.trans S') S' r q) fun _ _ e => EX.from S e
theorem St.rel {σ₁ σ₂ : Hp} {s₁ s₂ : Shared} (S : St G.B σ₁ s₁ σ₂ s₂) (H : HOk G.B σ₁ s₁.heap) {v : Value} {x : V} (r : Rel G.B s₁.heap v x) : Rel G.B s₂.heap v x := r.mono (S.step.frozen H)
theorem St.relL {σ₁ σ₂ : Hp} {s₁ s₂ : Shared} (S : St G.B σ₁ s₁ σ₂ s₂) (H : HOk G.B σ₁ s₁.heap) {v : List Value} {x : List V} (r : RelL G.B s₁.heap v x) : RelL G.B s₂.heap v x := r.mono (S.step.frozen H)

theorem sound_L : ∀ {cs : List CE}, (∀ c ∈ cs, SE G c) → ∀ {m : Md} {sc : Scope} {ns : List Str} {es : List PySem.Expr}, chkEs sc ns cs es = true → ∀ {A : Around} {env : Env} {ρ : List V} {σ : Hp} {s : Shared} {Q : List V → Hp → Prop} {X : Value → Hp → Prop},
    env.scope = sc → EOk G m A env ns ρ σ s → wpL G m cs ρ σ Q X → wpAny G.M A (spliced (es.map fun e => (false, eval e env))) (PL G.B σ s Q) (EX G.B σ s A env.frame X) s
  | [], _, _, _, _, [], _, _, _, _, _, _, _, _, _, K, h => Calls.spliced_nil ⟨[], _, .refl K.heap, .nil, h⟩
  | [], _, _, _, _, _ :: _, hc, _, _, _, _, _, _, _, _, _, _ => absurd hc Bool.false_ne_true
  | _ :: _, _, _, _, _, [], hc, _, _, _, _, _, _, _, _, _, _ => absurd hc Bool.false_ne_true
  | c :: cs, ih, m, sc, ns, e :: es, hc, A, env, ρ, σ, s, Q, X, hs, K, h => by
    obtain ⟨h1, h2⟩ := and2 (show (chkE sc ns c e && chkEs sc ns cs es) = true from hc)
    refine Calls.spliced_cons (chain (.refl K.heap) (ih c (List.mem_cons_self ..) m sc ns e h1 A env ρ σ s _ X hs K h) fun v x σ₁ s₁ S₁ _ r q => ?_)
    refine chainL S₁ (sound_L (fun c' hc' => ih c' (List.mem_cons_of_mem _ hc')) h2 hs (K.step S₁) q) fun vs xs σ₂ s₂ S₂ S₁₂ r₂ q₂ => ?_
    exact ⟨x :: xs, σ₂, S₂, .cons (S₁₂.rel S₁.ok r) r₂, q₂⟩
end
end Mine

set_option autoImplicit false
set_option maxRecDepth 100000
namespace Mine
open PySem PyProof.Rows

section
variable {G : Gl}
theorem se_none : SE G .cNone := fun _ _ _ _ hc _ _ _ _ _ _ _ _ K h => by
  obtain ⟨k, p, rfl⟩ := inv_none hc
  rw [eval_Constant]; exact wpAny_pure (pv_same K.heap .none h)
theorem se_bool {b : Bool} : SE G (.cBool b) := fun _ _ _ _ hc _ _ _ _ _ _ _ _ K h => by
  obtain ⟨k, p, rfl⟩ := inv_bool hc
  rw [eval_Constant]; exact wpAny_pure (pv_same K.heap (.bool _) h)
theorem se_int {i : Int} : SE G (.cInt i) := fun _ _ _ _ hc _ _ _ _ _ _ _ _ K h => by
  obtain ⟨k, p, rfl⟩ := inv_int hc
  exact wpAny_Constant_int (pv_tok K.heap _ (.int _ _) h)
theorem se_str {a : List Nat} : SE G (.cStr a) := fun _ _ _ _ hc _ _ _ _ _ _ _ _ K h => by
  obtain ⟨k, p, rfl⟩ := inv_str hc
  exact Calls.Constant_str (pv_tok K.heap _ (.str _ _) h)
theorem se_var {i : Nat} : SE G (.var i) := fun _ _ _ _ hc _ _ ρ _ _ _ _ hs K h => by
  obtain ⟨x, p, rfl, hx, hk, hd⟩ := inv_var hc
  obtain ⟨h1, h2⟩ := (show ρ.getD i .unb ≠ .unb ∧ _ from h)
  subst hs
  have hi : i < ρ.length := by
    apply Classical.byContradiction; intro hn
    exact h1 (by rw [List.getD_eq_getElem?_getD, List.getElem?_eq_none (by omega)]; rfl)
  have hv : ρ[i]? = some (ρ.getD i .unb) := by rw [List.getD_eq_getElem?_getD, List.getElem?_eq_getElem hi]; rfl
  exact name_var K hx hv h1 hk hd h2
theorem se_glob (GO : G.Ok) {x : Str} : SE G (.glob x) := fun _ _ _ _ hc _ _ ρ _ _ _ _ hs K h => by
  obtain ⟨p, rfl, hg⟩ := inv_glob hc
  obtain ⟨h1, h2⟩ := (show G.gl x ≠ .unb ∧ _ from h)
  obtain ⟨v, hv, hr⟩ := GO.gl x h1
  obtain ⟨hk, hd⟩ := globOK_inv hg
  subst hs
  exact name_global K GO hv hk hd (pv_same K.heap (hr _) h2)
theorem se_bin {op : Operator} {a b : CE} (ha : SE G a) (hb : SE G b) : SE G (.bin op a b) := fun m sc ns _ hc A env ρ σ s Q X hs K h => by
  obtain ⟨l, r, p, rfl, h1, h2⟩ := inv_bin hc
  refine wpAny_BinOp (chain (.refl K.heap) (ha m sc ns l h1 A env ρ σ s _ X hs K h) fun v x σ₁ s₁ S₁ _ r₁ q₁ => ?_)
  refine chain S₁ (hb m sc ns r h2 A env ρ σ₁ s₁ _ X hs (K.step S₁) q₁) fun w y σ₂ s₂ S₂ S₁₂ r₂ q₂ => ?_
  exact wpAny_mono (bin_ok (E := EX G.B σ s A env.frame X) S₂.ok (S₁₂.rel S₁.ok r₁) r₂ q₂) (fun _ _ q => q.from S₂) fun _ _ e => e
theorem se_usub {a : CE} (ha : SE G a) : SE G (.usub a) := fun m sc ns _ hc A env ρ σ s Q X hs K h => by
  obtain ⟨x, p, rfl, h1⟩ := inv_usub hc
  refine wpAny_UnaryOp (chain (.refl K.heap) (ha m sc ns x h1 A env ρ σ s _ X hs K h) fun v x σ₁ s₁ S₁ _ r₁ q₁ => ?_)
  cases x <;> first | exact q₁.elim | skip
  cases r₁
  exact P.neg_int ((pv_tok S₁.ok _ (.int _ _) q₁).from S₁)
theorem se_nt {a : CE} (ha : SE G a) : SE G (.nt a) := fun m sc ns _ hc A env ρ σ s Q X hs K h => by
  obtain ⟨x, p, rfl, h1⟩ := inv_nt hc
  show wpAny _ A (do let v ← eval x env; standAt p; holding [v] (unaryOp .Not v)) _ _ s
  refine wpAny_bind (chain (.refl K.heap) (ha m sc ns x h1 A env ρ σ s _ X hs K h) fun v x σ₁ s₁ S₁ _ r₁ q₁ => ?_)
  refine wpAny_bind (wpAny_standAt (wpAny_holding ?_))
  show wpAny _ A (holding [v] (do return Value.bool (!(← truthy v)))) _ _ s₁
  refine wpAny_holding (wpAny_bind (truth_ok r₁ q₁ fun b q => wpAny_pure ?_))
  exact ⟨_, σ₁, S₁, .bool _, q⟩
theorem se_cmp {op : CmpOp} {a b : CE} (ha : SE G a) (hb : SE G b) : SE G (.cmp a op b) := fun m sc ns _ hc A env ρ σ s Q X hs K h => by
  obtain ⟨l, r, p, rfl, hm, h1, h2⟩ := inv_cmp hc
  refine wpAny_Compare1 (chain (.refl K.heap) (ha m sc ns l h1 A env ρ σ s _ X hs K h) fun v x σ₁ s₁ S₁ _ r₁ q₁ => ?_) hm
  refine chain S₁ (hb m sc ns r h2 A env ρ σ₁ s₁ _ X hs (K.step S₁) q₁) fun w y σ₂ s₂ S₂ S₁₂ r₂ q₂ => ?_
  exact cmp_ok (S₁₂.rel S₁.ok r₁) r₂ q₂ fun b q => ⟨_, σ₂, S₂, .bool _, q⟩
theorem se_ite {c a b : CE} (hc' : ST G c) (ha : SE G a) (hb : SE G b) : SE G (.ite c a b) := fun m sc ns _ hc A env ρ σ s Q X hs K h => by
  obtain ⟨t, x, y, p, rfl, h0, h1, h2⟩ := inv_ite hc
  show wpAny _ A (do if ← isTrue t env (eval t env) then eval x env else eval y env) _ _ s
  refine wpAny_bind (chainB (.refl K.heap) (hc' m sc ns t h0 A env ρ σ s _ X hs K h) fun b σ₁ s₁ S₁ _ q => ?_)
  cases b with
  | true => exact wp_from S₁ (ha m sc ns x h1 A env ρ σ₁ s₁ Q X hs (K.step S₁) q)
  | false => exact wp_from S₁ (hb m sc ns y h2 A env ρ σ₁ s₁ Q X hs (K.step S₁) q)
theorem se_list {xs : List CE} (hx : ∀ c ∈ xs, SE G c) : SE G (.list xs) := fun m sc ns _ hc A env ρ σ s Q X hs K h => by
  obtain ⟨es, p, rfl, h1⟩ := inv_list hc
  refine List_ ?_
  rw [back_star p env h1]
  refine chainL (.refl K.heap) (sound_L hx h1 hs K h) fun vs xs σ₁ s₁ S₁ _ r q => ?_
  exact wpAny_mono (newList_ok (E := EX G.B σ s A env.frame X) S₁.ok r q) (fun _ _ q => q.from S₁) fun _ _ e => e
theorem se_tuple {xs : List CE} (hx : ∀ c ∈ xs, SE G c) : SE G (.tuple xs) := fun m sc ns _ hc A env ρ σ s Q X hs K h => by
  obtain ⟨es, k, p, rfl, h1⟩ := inv_tuple hc
  refine Tuple_ ?_
  rw [back_star p env h1]
  refine chainL (.refl K.heap) (sound_L hx h1 hs K h) fun vs xs σ₁ s₁ S₁ _ r q => ?_
  exact wpAny_mono (newTuple_ok (E := EX G.B σ s A env.frame X) S₁.ok r q.1 q.2) (fun _ _ q => q.from S₁) fun _ _ e => e
theorem se_idx {a i : CE} (ha : SE G a) (hi : SE G i) : SE G (.idx a i) := fun m sc ns _ hc A env ρ σ s Q X hs K h => by
  obtain ⟨v, sl, p, rfl, h1, h2⟩ := inv_idx hc
  refine Subscript_ (chain (.refl K.heap) (ha m sc ns v h1 A env ρ σ s _ X hs K h) fun v x σ₁ s₁ S₁ _ r₁ q₁ => ?_)
  refine chain S₁ (hi m sc ns sl h2 A env ρ σ₁ s₁ _ X hs (K.step S₁) q₁) fun w y σ₂ s₂ S₂ S₁₂ r₂ q₂ => ?_
  exact wpAny_mono (idx_ok (E := EX G.B σ s A env.frame X) (chk_notSlice h2) S₂.ok (S₁₂.rel S₁.ok r₁) r₂ q₂) (fun _ _ q => q.from S₂) fun _ _ e => e

def SO (G : Gl) (o : Option CE) : Prop := ∀ c, o = some c → SE G c
theorem part_ok {o : Option CE} {m : Md} {sc : Scope} {ns : List Str} {e : Option PySem.Expr} {A : Around} {env : Env} {ρ : List V} {σ σ₁ : Hp} {s s₁ : Shared} {Q : Option Int → Hp → Prop} {X : Value → Hp → Prop} {R : Value → Shared → Prop}
    (ho : SO G o) (hc : chkO sc ns o e = true) (hs : env.scope = sc) (S : St G.B σ s σ₁ s₁) (K : EOk G m A env ns ρ σ₁ s₁) (h : wpO G m o ρ σ₁ Q X)
    (k : ∀ v i σ₂ s₂, St G.B σ s σ₂ s₂ → St G.B σ₁ s₁ σ₂ s₂ → IsPart v i → Q i σ₂ → R v s₂) : wpAny G.M A (evalPart e env) R (EX G.B σ s A env.frame X) s₁ := by
  match o, e, hc, h, ho with
  | none, none, _, h, _ => exact wpAny_evalPart_none (k _ none σ₁ s₁ S (.refl K.heap) .none h)
  | some c, some e, hc, h, ho =>
    refine wpAny_evalPart_some (chain S (ho c rfl m sc ns e hc A env ρ σ₁ s₁ _ X hs K h) fun v x σ₂ s₂ S₂ S₁₂ r q => ?_)
    cases r <;> first | exact q.elim | exact k _ _ σ₂ s₂ S₂ S₁₂ (.int _ _) q
  | none, some _, hc, _, _ => exact absurd hc Bool.false_ne_true
  | some _, none, hc, _, _ => exact absurd hc Bool.false_ne_true
theorem se_slc {a : CE} {lo hi : Option CE} (ha : SE G a) (hl : SO G lo) (hh : SO G hi) : SE G (.slc a lo hi) := fun m sc ns _ hc A env ρ σ s Q X hs K h => by
  obtain ⟨v, l, u, q, p, rfl, h1, h2, h3⟩ := inv_slc hc
  refine Subscript_ (chain (.refl K.heap) (ha m sc ns v h1 A env ρ σ s _ X hs K h) fun v x σ₁ s₁ S₁ _ r₁ q₁ => ?_)
  refine wpAny_Slice (part_ok hl h2 hs S₁ (K.step S₁) q₁ fun vl il σ₂ s₂ S₂ S₁₂ pl q₂ => ?_)
  refine part_ok hh h3 hs S₂ (K.step S₂) q₂ fun vu iu σ₃ s₃ S₃ S₂₃ pu q₃ => ?_
  refine wpAny_evalPart_none ?_
  have r₃ := (S₁₂.trans S₂₃).rel S₁.ok r₁
  have S₄ := St.push (B := G.B) (s := s₃) S₃.ok { cls := .type "slice", data := .fields #[vl, vu, .none] } s₃.toks
  cases r₃ <;> first | exact q₃.elim | skip
  rename_i a t
  refine tail_any (ops := [.ref s₃.heap.objs.size, .str ⟨a.toArray⟩ t]) (typeIs_str _ _ t) F.slot_str_getitem.lookup ?_ rfl
  exact wpAny_mono (slice_str_ok (E := EX G.B σ s A env.frame X) S₄.ok pl pu ⟨_, Heap.get?_push_size _ rfl, rfl, rfl⟩ q₃) (fun _ _ q => q.from (S₃.trans S₄)) fun _ _ e => e
theorem se_callF (GO : G.Ok) {f : Str} {args : List CE} (hx : ∀ c ∈ args, SE G c) : SE G (.callF f args) := fun m sc ns _ hc A env ρ σ s Q X hs K h => by
  obtain ⟨q, es, p, rfl, hg, h1⟩ := inv_callF hc
  obtain ⟨hk, hd⟩ := globOK_inv hg
  have hk' : env.kindOf f = some .globalImplicit := by subst hs; exact hk
  refine wpAny_Call_NameR ?_
  obtain ⟨⟨o, fd, hf, ho, hfd⟩, h⟩ := h
  have hL := sound_L hx h1 hs K h
  refine name_global K GO (.inl hf) hk' hd ?_
  rw [back_star p env h1]
  refine call_fn (o := o) (fd := fd) (all_false es env) (chainL (.refl K.heap) hL fun vs xs σ₁ s₁ S₁ _ r q => ⟨⟨S₁.ok.base _ _ ho, hfd⟩, ?_⟩)
  obtain ⟨L, hL⟩ := K.frame
  exact wp_from S₁ (q A s₁ vs S₁.ok (K.room.step S₁.step) r env.frame (by rw [hL]; rfl))
theorem se_callB (GO : G.Ok) {b : Blt} {args : List CE} (hx : ∀ c ∈ args, SE G c) : SE G (.callB b args) := fun m sc ns _ hc A env ρ σ s Q X hs K h => by
  obtain ⟨q, es, p, rfl, hg, h1⟩ := inv_callB hc
  obtain ⟨hk, hd⟩ := globOK_inv hg
  have hk' : env.kindOf b.nm = some .globalImplicit := by subst hs; exact hk
  have hL := sound_L hx h1 hs K h
  refine wpAny_Call_NameR (name_global K GO (.inr (GO.blt b)) hk' hd ?_)
  rw [back_star p env h1]
  have fin : wpAny G.M A (spliced (es.map fun e => (false, eval e env))) (fun vs s₁ => wpAny G.M A (call b.val ([] ++ vs)) (PV G.B σ s Q) (EX G.B σ s A env.frame X) s₁) (EX G.B σ s A env.frame X) s :=
    chainL (.refl K.heap) hL fun vs xs σ₁ s₁ S₁ _ r q => wpAny_mono (blt_ok (E := EX G.B σ s A env.frame X) S₁.ok r q) (fun _ _ q => q.from S₁) fun _ _ e => e
  cases b <;> first | exact call_bi (all_false es env) (any_false es env) fin | exact call_ty (all_false es env) (any_false es env) fin
theorem se_meth {o : CE} {nm : Mth} {args : List CE} (ho : SE G o) (hx : ∀ c ∈ args, SE G c) : SE G (.meth o nm args) := fun m sc ns _ hc A env ρ σ s Q X hs K h => by
  obtain ⟨v, ap, es, p, rfl, hsup, hline, h0, h1, hlen⟩ := inv_meth hc
  rw [arm_eval_Call]
  refine wpAny_bind (base_ok hsup (chain (.refl K.heap) (ho m sc ns v h0 A env ρ σ s _ X hs K h) fun ov x σ₁ s₁ S₁ _ r₁ q₁ => ?_))
  refine wpAny_bind (wpAny_standAt ?_)
  rw [back_star p env h1]
  have hform : methodCallForm (es.length + ([] : List Keyword).length) (es.map fun e => (false, eval e env)) (backToKw p (keywordEach [] env)) = true := by
    show ((es.map fun e => (false, eval e env)).all (fun x => !x.1) && true && decide (es.length + 0 + 0 < 30)) = true
    rw [all_false, decide_eq_true (by omega)]; rfl
  have hpos : methodCallPos true v env ap p = pure p := by unfold methodCallPos; simp [hline]
  unfold methodCall
  rw [hform]
  obtain ⟨hty, q₁⟩ := q₁
  have hL := sound_L hx h1 hs (K.step S₁) q₁
  refine wpAny_bind (wpAny_holding (mth_get S₁.ok r₁ hty ?_))
  refine wpAny_bind (wpAny_of_eq hpos ?_)
  refine call_bi (all_false es env) (any_false es env) (chainL S₁ hL fun vs xs σ₂ s₂ S₂ S₁₂ r₂ q₂ => ?_)
  exact wpAny_mono (mth_ok (E := EX G.B σ s A env.frame X) S₂.ok (S₁₂.rel S₁.ok r₁) r₂ q₂) (fun _ _ q => q.from S₂) fun _ _ e => e
end
end Mine

set_option autoImplicit false
set_option maxRecDepth 100000
namespace Mine
open PySem PyProof.Rows

section
variable {G : Gl}
theorem evalEach_map (es : List PySem.Expr) (env : Env) : evalEach es env = es.map fun e => eval e env := by
  induction es with
  | nil => rfl
  | cons e es ih => show eval e env :: evalEach es env = _; rw [ih]; rfl

theorem bool_ok {t : Bool} {p : Pos} : ∀ {xs : List CE}, (∀ c ∈ xs, SE G c) → ∀ {m : Md} {sc : Scope} {ns : List Str} {es : List PySem.Expr}, chkEs sc ns xs es = true →
    ∀ {A : Around} {env : Env} {ρ : List V} {σ σ₁ : Hp} {s s₁ : Shared} {Q : V → Hp → Prop} {X : Value → Hp → Prop}, env.scope = sc → St G.B σ s σ₁ s₁ → EOk G m A env ns ρ σ₁ s₁ → wpB G m t xs ρ σ₁ Q X →
    wpAny G.M A (boolOp p (if t then .And else .Or) (evalEach es env)) (PV G.B σ s Q) (EX G.B σ s A env.frame X) s₁
  | [], _, _, _, _, _, _, _, _, _, _, _, _, _, _, _, _, _, _, h => h.elim
  | _ :: _, _, _, _, _, [], hc, _, _, _, _, _, _, _, _, _, _, _, _, _ => absurd hc Bool.false_ne_true
  | [c], ih, m, sc, ns, [e], hc, A, env, ρ, σ, σ₁, s, s₁, Q, X, hs, S, K, h => by
    obtain ⟨h1, _⟩ := and2 (show (chkE sc ns c e && chkEs sc ns [] []) = true from hc)
    exact wp_from S (ih c (List.mem_cons_self ..) m sc ns e h1 A env ρ σ₁ s₁ Q X hs K h)
  | [c], _, _, sc, ns, e :: e' :: es, hc, _, _, _, _, _, _, _, _, _, _, _, _, _ => by
    obtain ⟨_, h2⟩ := and2 (show (chkE sc ns c e && chkEs sc ns [] (e' :: es)) = true from hc)
    exact absurd h2 Bool.false_ne_true
  | c :: c' :: cs, ih, m, sc, ns, [e], hc, _, _, _, _, _, _, _, _, _, _, _, _, _ => by
    obtain ⟨_, h2⟩ := and2 (show (chkE sc ns c e && chkEs sc ns (c' :: cs) []) = true from hc)
    exact absurd h2 Bool.false_ne_true
  | c :: c' :: cs, ih, m, sc, ns, e :: e' :: es, hc, A, env, ρ, σ, σ₁, s, s₁, Q, X, hs, S, K, h => by
    obtain ⟨h1, h2⟩ := and2 (show (chkE sc ns c e && chkEs sc ns (c' :: cs) (e' :: es)) = true from hc)
    show wpAny _ A (do
      let v ← eval e env
      standAt p
      let b ← holding [v] (truthy v)
      match (if t then BoolOp.And else BoolOp.Or), b with
      | .And, false | .Or, true => pure v
      | _, _ => boolOp p (if t then .And else .Or) (evalEach (e' :: es) env)) _ _ s₁
    refine wpAny_bind (chain S (ih c (List.mem_cons_self ..) m sc ns e h1 A env ρ σ₁ s₁ _ X hs K h) fun v x σ₂ s₂ S₂ S₁₂ r q => ?_)
    refine wpAny_bind (wpAny_standAt (wpAny_bind (wpAny_holding (truth_ok r q fun b qb => ?_))))
    have ihr := @bool_ok t p (c' :: cs) (fun c' hc' => ih c' (List.mem_cons_of_mem _ hc')) m sc ns (e' :: es) h2 A env ρ σ σ₂ s s₂ Q X hs S₂ (K.step S₁₂)
    cases t <;> cases b <;> simp only [Bool.false_eq_true, if_false, if_true, Bool.true_eq_false] at qb ⊢ <;> first
      | exact ihr qb
      | exact wpAny_pure ⟨x, σ₂, S₂, r, qb⟩
theorem se_bop {t : Bool} {xs : List CE} (hx : ∀ c ∈ xs, SE G c) : SE G (.bop t xs) := fun m sc ns _ hc A env ρ σ s Q X hs K h => by
  obtain ⟨es, p, rfl, _, h1⟩ := inv_bop hc
  exact bool_ok hx h1 hs (.refl K.heap) K h

/-! ## tests -/
def plainTest : PySem.Expr → Bool
  | .UnaryOp .Not _ _ | .BoolOp .. | .IfExp .. | .Compare .. => false
  | _ => true
theorem isTrue_plain {e : PySem.Expr} (h : plainTest e = true) (env : Env) (w : Sem Value) : isTrue e env w = (do let v ← w; standAt e.pos; holding [v] (truthy v)) := by
  cases e <;> first | rfl | cases h | skip
  rename_i op x p
  cases op <;> first | rfl | cases h
theorem st_plain {c : CE} (hc : SE G c) (hp : ∀ sc ns e, chkE sc ns c e = true → plainTest e = true) : ST G c := fun m sc ns e h A env ρ σ s Q X hs K hw => by
  rw [isTrue_plain (hp sc ns e h)]
  refine wpAny_bind (chain (.refl K.heap) (hc m sc ns e h A env ρ σ s _ X hs K hw) fun v x σ₁ s₁ S₁ _ r q => ?_)
  exact wpAny_bind (wpAny_standAt (wpAny_holding (truth_ok r q fun b qb => ⟨σ₁, S₁, qb⟩)))
theorem truth_mono {x : V} {Q Q' : Bool → Prop} (h : truthP x Q) (k : ∀ b, Q b → Q' b) : truthP x Q' := by
  cases x <;> first | exact k _ h | exact h.elim
theorem st_nt {a : CE} (ha : ST G a) : ST G (.nt a) := fun m sc ns _ hc A env ρ σ s Q X hs K h => by
  obtain ⟨x, p, rfl, h1⟩ := inv_nt hc
  show wpAny _ A (do return !(← isTrue x env (eval x env))) _ _ s
  refine wpAny_bind (chainB (.refl K.heap) (ha m sc ns x h1 A env ρ σ s (fun b σ' => Q (!b) σ') X hs K h) fun b σ₁ s₁ S₁ _ q => wpAny_pure ⟨σ₁, S₁, q⟩)
theorem st_cmp {op : CmpOp} {a b : CE} (ha : SE G a) (hb : SE G b) : ST G (.cmp a op b) := fun m sc ns _ hc A env ρ σ s Q X hs K h => by
  obtain ⟨l, r, p, rfl, hm, h1, h2⟩ := inv_cmp hc
  refine wpAny_isTrue_Compare1 (chain (.refl K.heap) (ha m sc ns l h1 A env ρ σ s _ X hs K h) fun v x σ₁ s₁ S₁ _ r₁ q₁ => ?_) hm
  refine chain S₁ (hb m sc ns r h2 A env ρ σ₁ s₁ _ X hs (K.step S₁) q₁) fun w y σ₂ s₂ S₂ S₁₂ r₂ q₂ => ?_
  exact cmp_ok (S₁₂.rel S₁.ok r₁) r₂ q₂ fun b q => wpAny_truthy_bool ⟨σ₂, S₂, q⟩
theorem st_ite {c a b : CE} (hc' : ST G c) (ha : ST G a) (hb : ST G b) : ST G (.ite c a b) := fun m sc ns _ hc A env ρ σ s Q X hs K h => by
  obtain ⟨t, x, y, p, rfl, h0, h1, h2⟩ := inv_ite hc
  show wpAny _ A (do if ← isTrue t env (eval t env) then isTrue x env (eval x env) else isTrue y env (eval y env)) _ _ s
  refine wpAny_bind (chainB (.refl K.heap) (hc' m sc ns t h0 A env ρ σ s _ X hs K h) fun b σ₁ s₁ S₁ _ q => ?_)
  cases b with
  | true => exact wpB_from S₁ (ha m sc ns x h1 A env ρ σ₁ s₁ Q X hs (K.step S₁) q)
  | false => exact wpB_from S₁ (hb m sc ns y h2 A env ρ σ₁ s₁ Q X hs (K.step S₁) q)
theorem allT_ok {t : Bool} : ∀ {xs : List CE}, (∀ c ∈ xs, ST G c) → ∀ {m : Md} {sc : Scope} {ns : List Str} {es : List PySem.Expr}, chkEs sc ns xs es = true →
    ∀ {A : Around} {env : Env} {ρ : List V} {σ σ₁ : Hp} {s s₁ : Shared} {Q : Bool → Hp → Prop} {X : Value → Hp → Prop}, env.scope = sc → St G.B σ s σ₁ s₁ → EOk G m A env ns ρ σ₁ s₁ → wpB G m t xs ρ σ₁ (fun x σ' => truthP x fun b => Q b σ') X →
    wpAny G.M A (allTrue (if t then .And else .Or) es env) (PB G.B σ s Q) (EX G.B σ s A env.frame X) s₁
  | [], _, _, _, _, _, _, _, _, _, _, _, _, _, _, _, _, _, _, h => h.elim
  | _ :: _, _, _, _, _, [], hc, _, _, _, _, _, _, _, _, _, _, _, _, _ => absurd hc Bool.false_ne_true
  | [c], ih, m, sc, ns, [e], hc, A, env, ρ, σ, σ₁, s, s₁, Q, X, hs, S, K, h => by
    obtain ⟨h1, _⟩ := and2 (show (chkE sc ns c e && chkEs sc ns [] []) = true from hc)
    show wpAny _ A (do
      match (if t then BoolOp.And else BoolOp.Or), ← isTrue e env (eval e env) with
      | .And, false => pure false
      | .Or, true => pure true
      | _, _ => allTrue (if t then .And else .Or) [] env) _ _ s₁
    refine wpAny_bind (chainB S (ih c (List.mem_cons_self ..) m sc ns e h1 A env ρ σ₁ s₁ Q X hs K h) fun b σ₂ s₂ S₂ S₁₂ q => ?_)
    cases t <;> cases b <;> exact wpAny_pure ⟨σ₂, S₂, q⟩
  | [c], _, _, sc, ns, e :: e' :: es, hc, _, _, _, _, _, _, _, _, _, _, _, _, _ => by
    obtain ⟨_, h2⟩ := and2 (show (chkE sc ns c e && chkEs sc ns [] (e' :: es)) = true from hc)
    exact absurd h2 Bool.false_ne_true
  | c :: c' :: cs, ih, m, sc, ns, e :: es, hc, A, env, ρ, σ, σ₁, s, s₁, Q, X, hs, S, K, h => by
    obtain ⟨h1, h2⟩ := and2 (show (chkE sc ns c e && chkEs sc ns (c' :: cs) es) = true from hc)
    show wpAny _ A (do
      match (if t then BoolOp.And else BoolOp.Or), ← isTrue e env (eval e env) with
      | .And, false => pure false
      | .Or, true => pure true
      | _, _ => allTrue (if t then .And else .Or) es env) _ _ s₁
    have h' : wpE G m c ρ σ₁ (fun x σ' => truthP x fun b => if b = t then wpB G m t (c' :: cs) ρ σ' (fun x σ' => truthP x fun b => Q b σ') X else Q b σ') X := by
      have h0 : wpE G m c ρ σ₁ (fun x σ' => truthP x fun b => if b = t then wpB G m t (c' :: cs) ρ σ' (fun x σ' => truthP x fun b => Q b σ') X else truthP x fun b => Q b σ') X := h
      have e : (fun (x : V) (σ' : Hp) => truthP x fun b => if b = t then wpB G m t (c' :: cs) ρ σ' (fun x σ' => truthP x fun b => Q b σ') X else truthP x fun b => Q b σ') =
          fun x σ' => truthP x fun b => if b = t then wpB G m t (c' :: cs) ρ σ' (fun x σ' => truthP x fun b => Q b σ') X else Q b σ' := by
        funext x σ'; cases x <;> rfl
      rw [e] at h0
      exact h0
    refine wpAny_bind (chainB S (ih c (List.mem_cons_self ..) m sc ns e h1 A env ρ σ₁ s₁ _ X hs K h') fun b σ₂ s₂ S₂ S₁₂ q => ?_)
    have ihr := @allT_ok t (c' :: cs) (fun c' hc' => ih c' (List.mem_cons_of_mem _ hc')) m sc ns es h2 A env ρ σ σ₂ s s₂ Q X hs S₂ (K.step S₁₂)
    cases t <;> cases b <;> simp only [Bool.false_eq_true, if_false, if_true, Bool.true_eq_false] at q ⊢ <;> first
      | exact ihr q
      | exact wpAny_pure ⟨σ₂, S₂, q⟩
theorem st_bop {t : Bool} {xs : List CE} (hx : ∀ c ∈ xs, ST G c) : ST G (.bop t xs) := fun m sc ns _ hc A env ρ σ s Q X hs K h => by
  obtain ⟨es, p, rfl, _, h1⟩ := inv_bop hc
  exact allT_ok hx h1 hs (.refl K.heap) K h

theorem false_se {c : CE} (h : ∀ m ρ σ Q X, wpE G m c ρ σ Q X → False) : SE G c ∧ ST G c :=
  ⟨fun _ _ _ _ _ _ _ _ _ _ _ _ _ _ hw => (h _ _ _ _ _ hw).elim, fun _ _ _ _ _ _ _ _ _ _ _ _ _ _ hw => (h _ _ _ _ _ hw).elim⟩
theorem both {c : CE} (h : SE G c) (hp : ∀ sc ns e, chkE sc ns c e = true → plainTest e = true) : SE G c ∧ ST G c := ⟨h, st_plain h hp⟩

mutual
theorem sound (GO : G.Ok) : ∀ c : CE, SE G c ∧ ST G c
  | .cNone => both se_none fun _ _ _ h => by obtain ⟨_, _, rfl⟩ := inv_none h; rfl
  | .cBool _ => both se_bool fun _ _ _ h => by obtain ⟨_, _, rfl⟩ := inv_bool h; rfl
  | .cInt _ => both se_int fun _ _ _ h => by obtain ⟨_, _, rfl⟩ := inv_int h; rfl
  | .cStr _ => both se_str fun _ _ _ h => by obtain ⟨_, _, rfl⟩ := inv_str h; rfl
  | .var _ => both se_var fun _ _ _ h => by obtain ⟨_, _, rfl, _⟩ := inv_var h; rfl
  | .glob _ => both (se_glob GO) fun _ _ _ h => by obtain ⟨_, rfl, _⟩ := inv_glob h; rfl
  | .bin _ a b => both (se_bin (sound GO a).1 (sound GO b).1) fun _ _ _ h => by obtain ⟨_, _, _, rfl, _⟩ := inv_bin h; rfl
  | .usub a => both (se_usub (sound GO a).1) fun _ _ _ h => by obtain ⟨_, _, rfl, _⟩ := inv_usub h; rfl
  | .nt a => ⟨se_nt (sound GO a).1, st_nt (sound GO a).2⟩
  | .bop _ xs => ⟨se_bop fun c hc => (sounds GO xs c hc).1, st_bop fun c hc => (sounds GO xs c hc).2⟩
  | .cmp a _ b => ⟨se_cmp (sound GO a).1 (sound GO b).1, st_cmp (sound GO a).1 (sound GO b).1⟩
  | .cmp2 _ _ _ _ _ => false_se fun _ _ _ _ _ h => h
  | .ite c a b => ⟨se_ite (sound GO c).2 (sound GO a).1 (sound GO b).1, st_ite (sound GO c).2 (sound GO a).2 (sound GO b).2⟩
  | .list xs => both (se_list fun c hc => (sounds GO xs c hc).1) fun _ _ _ h => by obtain ⟨_, _, rfl, _⟩ := inv_list h; rfl
  | .tuple xs => both (se_tuple fun c hc => (sounds GO xs c hc).1) fun _ _ _ h => by obtain ⟨_, _, _, rfl, _⟩ := inv_tuple h; rfl
  | .dict0 => false_se fun _ _ _ _ _ h => h
  | .idx a i => both (se_idx (sound GO a).1 (sound GO i).1) fun _ _ _ h => by obtain ⟨_, _, _, rfl, _⟩ := inv_idx h; rfl
  | .slc a lo hi => both (se_slc (sound GO a).1 (soundo GO lo) (soundo GO hi)) fun _ _ _ h => by obtain ⟨_, _, _, _, _, rfl, _⟩ := inv_slc h; rfl
  | .callF _ args => both (se_callF GO fun c hc => (sounds GO args c hc).1) fun _ _ _ h => by obtain ⟨_, _, _, rfl, _⟩ := inv_callF h; rfl
  | .callB _ args => both (se_callB GO fun c hc => (sounds GO args c hc).1) fun _ _ _ h => by obtain ⟨_, _, _, rfl, _⟩ := inv_callB h; rfl
  | .sortedK _ _ => false_se fun _ _ _ _ _ h => h
  | .new _ _ => false_se fun _ _ _ _ _ h => h
  | .meth o _ args => both (se_meth (sound GO o).1 fun c hc => (sounds GO args c hc).1) fun _ _ _ h => by obtain ⟨_, _, _, _, rfl, _⟩ := inv_meth h; rfl
  | .methU _ _ _ => false_se fun _ _ _ _ _ h => h
  | .attr _ _ => false_se fun _ _ _ _ _ h => h
  | .comp _ _ _ _ _ _ => false_se fun _ _ _ _ _ h => h
theorem sounds (GO : G.Ok) : ∀ (cs : List CE), ∀ c ∈ cs, SE G c ∧ ST G c
  | [] => fun _ h => nomatch h
  | c :: cs => by
    have h0 := sound GO c
    have h1 := sounds GO cs
    intro c' h
    rcases List.mem_cons.mp h with e | h
    · rw [e]; exact h0
    · exact h1 c' h
theorem soundo (GO : G.Ok) : ∀ o : Option CE, SO G o
  | none => fun _ h => nomatch h
  | some c => fun c' h => by cases h; exact (sound GO c).1
end
end
end Mine

set_option autoImplicit false
set_option maxRecDepth 100000
namespace Mine
open PySem PyProof.Rows

/-! ## statements: the frame's own state -/
def Own (env : Env) (b : Addr) : Prop := b = env.locals ∨ ∃ x, (x, b) ∈ env.cells
structure FOk (G : Gl) (m : Md) (A : Around) (env : Env) (ns : List Str) (ρ : List V) (σ : Hp) (s : Shared) : Prop where
  e : EOk G m A env ns ρ σ s
  apart : env.cells.Pairwise fun x y => x.2 ≠ y.2
  nodup : ns.Nodup
  top : ∃ outer, A.frames = some (env :: outer)
  own : ∀ x c, (x, c) ∈ env.cells → (∃ ov, s.heap.IsCell c ov) ∧ σ c = none ∧ G.B.get? c = none
theorem FOk.step {G : Gl} {m : Md} {A : Around} {env : Env} {ns : List Str} {ρ : List V} {σ σ' : Hp} {s s' : Shared} (K : FOk G m A env ns ρ σ s) (S : St G.B σ s σ' s') : FOk G m A env ns ρ σ' s' :=
  ⟨K.e.step S, K.apart, K.nodup, K.top, fun x c hc => by
    obtain ⟨⟨ov, h1⟩, h2, h3⟩ := K.own x c hc
    obtain ⟨o, ho, _⟩ := id h1
    exact ⟨⟨ov, cell_step S.step h1 h2⟩, (S.step.keep c o ho h2).1, h3⟩⟩

def FlRel (B h : Heap) : Flow → Fl → Prop
  | .next, .next => True
  | .ret v, .ret x => Rel B h v x
  | _, _ => False
def PS (G : Gl) (m : Md) (A : Around) (env : Env) (ns : List Str) (σ : Hp) (s : Shared) (K : KS) : Flow → Shared → Prop :=
  fun f s' => ∃ fl ρ' σ', FlRel G.B s'.heap f fl ∧ FOk G m A env ns ρ' σ' s' ∧ StX G.B (Own env) σ s σ' s' ∧ K fl ρ' σ'
theorem PS.from {G : Gl} {m : Md} {A : Around} {env : Env} {ns : List Str} {σ σ₁ : Hp} {s s₁ : Shared} {K : KS} (S : StX G.B (Own env) σ s σ₁ s₁) {f : Flow} {s' : Shared} (h : PS G m A env ns σ₁ s₁ K f s') : PS G m A env ns σ s K f s' :=
  let ⟨fl, ρ', σ', h1, h2, h3, h4⟩ := h; ⟨fl, ρ', σ', h1, h2, S.trans h3, h4⟩

section
variable {G : Gl} {m : Md} {A : Around} {env : Env} {ns : List Str} {ρ : List V} {σ σ₀ : Hp} {s s₀ : Shared} {E : Value → Shared → Prop}

theorem StX.refl {D : Addr → Prop} (H : HOk G.B σ s.heap) : StX G.B D σ s σ s := (St.refl H).toX

/-- an object outside the abstract heap is changed: it is one of D, or new -/
theorem priv_change {D : Addr → Prop} {p : Addr} {h' : Heap} {t : Nat} {o : Obj} (S : StX G.B D σ₀ s₀ σ s) (hp : σ p = none) (hB : G.B.get? p = none) (h0 : (D p ∧ ∃ o', h'.get? p = some o') ∨ s₀.heap.get? p = none) (ho : s.heap.get? p = some o) (hf : ¬ Fixed o)
    (hs : Heap.ExtBut p s.heap h') : StX G.B D σ₀ s₀ σ { s with heap := h', toks := t } ∧ Frozen s.heap h' := by
  have frz : Frozen s.heap h' := fun b o' e q => by
    by_cases hb : b = p
    · subst hb; rw [ho] at e; cases e; exact absurd q hf
    · exact hs b o' hb e
  have base : G.B.StaysIn h' := fun b o' e => hs b o' (by rintro rfl; rw [hB] at e; cases e) (S.ok.base b o' e)
  refine ⟨⟨fun b o' e n d => ?_, fun b o' e d => ?_, S.dom, ⟨fun a c q => ?_, S.ok.fresh, base⟩, by rw [S.rest]⟩, frz⟩
  · obtain ⟨h1, o'', h2, h3⟩ := S.keep b o' e n d
    exact ⟨h1, o'', hs b o'' (by rintro rfl; rcases h0 with h0 | h0; exact d h0.1; rw [h0] at e; cases e) h2, h3⟩
  · obtain ⟨o'', h2⟩ := S.live b o' e d
    by_cases hb : b = p
    · subst hb; rcases h0 with h0 | h0; exact h0.2; rw [h0] at e; cases e
    · exact ⟨o'', hs b o'' hb h2⟩
  · exact (S.ok.cells a c q).mono frz fun o' e => hs a o' (by rintro rfl; rw [hp] at q; cases q) e

theorem not_fixed_dict {o : Obj} {es n} (h : o.data = .dict es n) : ¬ Fixed o := fun q => q.2.1 _ _ h
theorem not_fixed_cell {o : Obj} {v} (h : o.data = .cell v) : ¬ Fixed o := fun q => q.2.2 _ h

theorem set_get {i j : Nat} {x w : V} (h : (ρ.set i x)[j]? = some w) : (j = i ∧ w = x) ∨ (j ≠ i ∧ ρ[j]? = some w) := by
  by_cases hj : j = i
  · subst hj
    rw [List.getElem?_set] at h
    simp only [if_true] at h
    split at h
    · cases h; exact .inl ⟨rfl, rfl⟩
    · cases h
  · rw [List.getElem?_set, if_neg (fun e => hj e.symm)] at h; exact .inr ⟨hj, h⟩
theorem relO_some {B h : Heap} {v : Value} {x : V} (r : Rel B h v x) : RelO B h (some v) x := by cases r <;> first | exact trivial | exact .none | (first | exact .bool _ | exact .int _ _ | exact .str _ _ | (constructor <;> assumption))

theorem ns_inj {i j : Nat} {x : Str} (hn : ns.Nodup) (hi : ns[i]? = some x) (hj : ns[j]? = some x) : i = j := by
  have hi' := List.getElem?_eq_some_iff.mp hi
  have hj' := List.getElem?_eq_some_iff.mp hj
  obtain ⟨a, ha⟩ := hi'
  obtain ⟨b, hb⟩ := hj'
  have hp := List.pairwise_iff_getElem.mp hn
  rcases Nat.lt_trichotomy i j with h | h | h
  · exact absurd (ha.trans hb.symm) (hp i j a b h)
  · exact h
  · exact absurd (hb.trans ha.symm) (hp j i b a h)

theorem store_ok {x : Str} {i : Nat} {v : Value} {xv : V} {R : Unit → Shared → Prop} (K : FOk G m A env ns ρ σ s) (hx : ns[i]? = some x) (hk : env.kindOf x = some .local ∨ env.kindOf x = some .cell) (r : Rel G.B s.heap v xv)
    (k : ∀ h' t, FOk G m A env ns (ρ.set i xv) σ { s with heap := h', toks := t } → StX G.B (Own env) σ s σ { s with heap := h', toks := t } → Frozen s.heap h' → R () { s with heap := h', toks := t }) : wpAny G.M A (storeName env x v) R E s := by
  obtain ⟨mm, hn, vars⟩ := K.e.loc.vars
  rcases hk with hk | hk
  · refine wpAny_storeName_local hk hn (fun h' hn' hs' => ?_) (by rw [K.e.eok.kind]; rfl)
    obtain ⟨o, es, ep, ho, hd, _⟩ := id hn
    obtain ⟨oh, _, _, hoh, _⟩ := id hn'
    obtain ⟨S', frz⟩ := priv_change (t := s.toks + 1) (StX.refl (D := Own env) K.e.heap) K.e.loc.out K.e.loc.new (.inl ⟨.inl rfl, oh, hoh⟩) ho (not_fixed_dict hd) hs'.extBut
    refine k h' _ ⟨⟨K.e.eok, ⟨by rw [List.length_set]; exact K.e.loc.len, K.e.loc.out, K.e.loc.new, _, hn', fun j y w hy hw => ?_⟩, S'.ok, ⟨K.e.room.depth, K.e.room.units, K.e.room.handled, ?_⟩, K.e.frame⟩, K.apart, K.nodup, K.top, fun x c hc => ?_⟩ S' frz
    · rcases set_get hw with ⟨rfl, rfl⟩ | ⟨hj, hw⟩
      · have : y = x := Option.some.inj (hy.symm.trans hx)
        subst this
        exact ⟨fun _ => by simp only [if_true]; exact relO_some (r.mono frz), fun hc => by rw [hk] at hc; cases hc⟩
      · have hne : y ≠ x := by rintro rfl; exact hj (ns_inj K.nodup hy hx)
        refine ⟨fun hl => by rw [if_neg hne]; exact ((vars j y w hy hw).1 hl).mono frz, fun hc => ?_⟩
        obtain ⟨c, ov, h1, h2, h3, h4, h5⟩ := (vars j y w hy hw).2 hc
        obtain ⟨oc, hoc, hdc⟩ := id h2
        exact ⟨c, ov, h1, h2.sameBut hs' (by rintro rfl; rw [ho] at hoc; cases hoc; rw [hd] at hdc; cases hdc), h3.mono frz, h4, h5⟩
    · obtain ⟨l, hl, hF⟩ := K.e.room.frames
      refine ⟨l, hl, fun ev he => ?_⟩
      obtain ⟨f1, L, oL, f2, f3, f4, f5, es', n', f6⟩ := hF ev he
      by_cases hL : L = env.locals
      · subst hL
        obtain ⟨o2, es2, ep2, ho2, hd2, _⟩ := hn'
        exact ⟨f1, _, o2, f2, f3, f4, ho2, es2, ep2, hd2⟩
      · exact ⟨f1, L, oL, f2, f3, f4, by show h'.get? L = _; rw [hs'.2 L hL]; exact f5, es', n', f6⟩
    · obtain ⟨⟨ov, h1⟩, h2, h3⟩ := K.own x c hc
      obtain ⟨oc, hoc, hdc⟩ := id h1
      exact ⟨⟨ov, h1.sameBut hs' (by rintro rfl; rw [ho] at hoc; cases hoc; rw [hd] at hdc; cases hdc)⟩, h2, h3⟩
  · have hi : i < ρ.length := by rw [K.e.loc.len]; exact (List.getElem?_eq_some_iff.mp hx).1
    obtain ⟨c, ov, h1, h2, h3, h4, h5⟩ := (vars i x _ hx (List.getElem?_eq_getElem hi)).2 hk
    refine wpAny_storeName_cell K.e.eok.kind hk h1 h2 fun h' hn' hs' => ?_
    obtain ⟨oc, hoc, hdc⟩ := id h2
    obtain ⟨o, es, ep, ho, hd, hr⟩ := id hn
    have hcl : env.locals ≠ c := by rintro rfl; rw [ho] at hoc; cases hoc; rw [hd] at hdc; cases hdc
    obtain ⟨oh, hoh, _⟩ := id hn'
    obtain ⟨S', frz⟩ := priv_change (t := s.toks) (StX.refl (D := Own env) K.e.heap) h4 h5 (.inl ⟨.inr ⟨x, mem_of_lookup h1⟩, oh, hoh⟩) hoc (not_fixed_cell hdc) hs'.extBut
    refine k h' _ ⟨⟨K.e.eok, ⟨by rw [List.length_set]; exact K.e.loc.len, K.e.loc.out, K.e.loc.new, mm, hn.sameBut hs' hcl, fun j y w hy hw => ?_⟩, S'.ok, ⟨K.e.room.depth, K.e.room.units, K.e.room.handled, ?_⟩, K.e.frame⟩, K.apart, K.nodup, K.top, fun x d hc => ?_⟩ S' frz
    · rcases set_get hw with ⟨rfl, rfl⟩ | ⟨hj, hw⟩
      · have : y = x := Option.some.inj (hy.symm.trans hx)
        subst this
        exact ⟨fun hc => (by rw [hk] at hc; cases hc), fun _ => ⟨c, some v, h1, hn', relO_some (r.mono frz), h4, h5⟩⟩
      · have hne : y ≠ x := by rintro rfl; exact hj (ns_inj K.nodup hy hx)
        refine ⟨fun hl => ((vars j y w hy hw).1 hl).mono frz, fun hc => ?_⟩
        obtain ⟨c', ov', g1, g2, g3, g4, g5⟩ := (vars j y w hy hw).2 hc
        exact ⟨c', ov', g1, g2.sameBut hs' (by rintro rfl; exact hne (name_of_addr K.apart (mem_of_lookup g1) (mem_of_lookup h1))), g3.mono frz, g4, g5⟩
    · obtain ⟨l, hl, hF⟩ := K.e.room.frames
      refine ⟨l, hl, fun ev he => ?_⟩
      obtain ⟨f1, L, oL, f2, f3, f4, f5, es', n', f6⟩ := hF ev he
      refine ⟨f1, L, oL, f2, f3, f4, ?_, es', n', f6⟩
      show h'.get? L = _
      rw [hs'.2 L (by rintro rfl; rw [hoc] at f5; cases f5; rw [hdc] at f6; cases f6)]; exact f5
    · obtain ⟨⟨ov', g1⟩, g2, g3⟩ := K.own x d hc
      by_cases hdc' : d = c
      · subst hdc'; exact ⟨⟨_, hn'⟩, g2, g3⟩
      · exact ⟨⟨ov', g1.sameBut hs' hdc'⟩, g2, g3⟩

/-- the frame's state under a change of an object of records (an iterator) -/
theorem EOk.ext {p : Addr} {h' : Heap} {t : Nat} {o : Obj} {vs : Array Value} (K : EOk G m A env ns ρ σ s) (ho : s.heap.get? p = some o) (hd : o.data = .fields vs) (hs : Heap.ExtBut p s.heap h') (frz : Frozen s.heap h')
    (H : HOk G.B σ h') : EOk G m A env ns ρ σ { s with heap := h', toks := t } := by
  obtain ⟨mm, hn, vars⟩ := K.loc.vars
  have ne_of : ∀ {q : Addr} {o' : Obj}, s.heap.get? q = some o' → (∀ vs, o'.data ≠ .fields vs) → q ≠ p := fun h1 h2 => by
    rintro rfl; rw [ho] at h1; cases h1; exact h2 _ hd
  refine ⟨K.eok, ⟨K.loc.len, K.loc.out, K.loc.new, mm, ?_, fun i x v hx hv => ⟨fun hl => ((vars i x v hx hv).1 hl).mono frz, fun hc => ?_⟩⟩, H, ⟨K.room.depth, K.room.units, K.room.handled, ?_⟩, K.frame⟩
  · obtain ⟨oL, es, ep, h1, h2, h3⟩ := hn
    exact ⟨oL, es, ep, hs _ _ (ne_of h1 fun _ e => by rw [h2] at e; cases e) h1, h2, h3⟩
  · obtain ⟨c, ov, h1, ⟨oc, h2, h2'⟩, h3, h4, h5⟩ := (vars i x v hx hv).2 hc
    exact ⟨c, ov, h1, ⟨oc, hs _ _ (ne_of h2 fun _ e => by rw [h2'] at e; cases e) h2, h2'⟩, h3.mono frz, h4, h5⟩
  · obtain ⟨l, hl, hF⟩ := K.room.frames
    refine ⟨l, hl, fun ev he => ?_⟩
    obtain ⟨f1, L, oL, f2, f3, f4, f5, es', n', f6⟩ := hF ev he
    exact ⟨f1, L, oL, f2, f3, f4, hs _ _ (ne_of f5 fun _ e => by rw [f6] at e; cases e) f5, es', n', f6⟩

theorem FOk.ext {p : Addr} {h' : Heap} {t : Nat} {o : Obj} {vs : Array Value} (K : FOk G m A env ns ρ σ s) (ho : s.heap.get? p = some o) (hd : o.data = .fields vs) (hs : Heap.ExtBut p s.heap h') (frz : Frozen s.heap h')
    (H : HOk G.B σ h') : FOk G m A env ns ρ σ { s with heap := h', toks := t } :=
  ⟨K.e.ext ho hd hs frz H, K.apart, K.nodup, K.top, fun x c hc => by
    obtain ⟨⟨ov, oc, h1, h1'⟩, h2, h3⟩ := K.own x c hc
    exact ⟨⟨ov, oc, hs c oc (by rintro rfl; rw [ho] at h1; cases h1; rw [hd] at h1'; cases h1') h1, h1'⟩, h2, h3⟩⟩
theorem FOk.notOwn {p : Addr} {o : Obj} (K : FOk G m A env ns ρ σ s) (ho : s.heap.get? p = some o) (h1 : ∀ es n, o.data ≠ .dict es n) (h2 : ∀ v, o.data ≠ .cell v) : ¬ Own env p := by
  rintro (rfl | ⟨x, hx⟩)
  · obtain ⟨mm, ⟨o', es, ep, e, hd, _⟩, _⟩ := K.e.loc.vars
    rw [ho] at e; cases e; exact h1 _ _ hd
  · obtain ⟨⟨ov, o', e, hd⟩, _⟩ := K.own x p hx
    rw [ho] at e; cases e; exact h2 _ hd
theorem FOk.frozen {σ' : Hp} {s' : Shared} (K : FOk G m A env ns ρ σ s) (S : StX G.B (Own env) σ s σ' s') : Frozen s.heap s'.heap := fun b o e q => by
  obtain ⟨_, o', e', k⟩ := S.keep b o e (K.e.heap.none_of e q) (K.notOwn e q.2.1 q.2.2)
  rcases k with rfl | ⟨⟨es, n, hd⟩, _⟩
  · exact e'
  · exact absurd hd (q.2.1 es n)
end
end Mine

set_option autoImplicit false
set_option maxRecDepth 100000
namespace Mine
open PySem PyProof.Rows

section
variable {G : Gl} {m : Md} {A : Around} {env : Env} {outer : List Env} {D : Addr → Prop} {σ₀ σ : Hp} {s₀ s : Shared} {E : Value → Shared → Prop} {X : Value → Hp → Prop}

theorem frames_fun {B : Heap} {h : Heap} : ∀ {l : List Env}, FramesOk B σ h l → h.FunFrames B l
  | [], _ => trivial
  | env :: l, F => by
    obtain ⟨h1, L, o, h2, h3, _, h5, es, n, h6⟩ := F env (List.mem_cons_self ..)
    exact ⟨h1, ⟨L, o, h2, h3, h5, fun vs e => by rw [h6] at e; cases e⟩, frames_fun fun e he => F e (List.mem_cons_of_mem _ he)⟩
theorem frames_mem {B : Heap} {h : Heap} {l : List Env} (F : FramesOk B σ h l) {b : Addr} (hb : b ∈ l.filterMap (·.frame)) : B.get? b = none ∧ σ b = none ∧ ∃ o es n, h.get? b = some o ∧ o.data = .dict es n := by
  obtain ⟨ev, he, hf⟩ := List.mem_filterMap.mp hb
  obtain ⟨_, L, o, h2, h3, h4, h5, es, n, h6⟩ := F ev he
  rw [h2] at hf; cases hf
  exact ⟨h3, h4, o, es, n, h5, h6⟩
theorem slots_st {l : List Env} {h' : Heap} {t : Nat} (H : HOk G.B σ s.heap) (F : FramesOk G.B σ s.heap l) (x : Heap.SlotsOnly (l.filterMap (·.frame)) s.heap h') : St G.B σ s σ { s with heap := h', toks := t } := by
  have frz : Frozen s.heap h' := fun b o e q => by
    by_cases hb : b ∈ l.filterMap (·.frame)
    · obtain ⟨_, _, o', es, n, h5, h6⟩ := frames_mem F hb
      rw [e] at h5; cases h5; exact absurd h6 (q.2.1 es n)
    · rw [x.2.1 b hb]; exact e
  have base : G.B.StaysIn h' := fun b o e => by
    rw [x.2.1 b fun hb => by rw [(frames_mem F hb).1] at e; cases e]; exact H.base b o e
  refine ⟨⟨fun b o e n => ⟨n, ?_⟩, fun _ => base, fun _ c q => ⟨c, q⟩⟩, ⟨fun a c q => ?_, H.fresh, base⟩, rfl⟩
  · by_cases hb : b ∈ l.filterMap (·.frame)
    · obtain ⟨_, _, o', es, k, h5, h6⟩ := frames_mem F hb
      rw [e] at h5; cases h5
      obtain ⟨sl, hsl⟩ := x.2.2 b o e
      exact ⟨_, hsl, .inr ⟨⟨es, k, h6⟩, sl, rfl⟩⟩
    · exact ⟨o, by rw [x.2.1 b hb]; exact e, .refl o⟩
  · exact (H.cells a c q).mono frz fun o e => by rw [x.2.1 a fun hb => by rw [(frames_mem F hb).2.1] at q; cases q]; exact e
theorem FramesOk.change {B h h' : Heap} {l : List Env} {p : Addr} {o : Obj} (F : FramesOk B σ h l) (ho : h.get? p = some o) (hd : ∀ es n, o.data ≠ .dict es n) (hs : Heap.SameBut p h h') : FramesOk B σ h' l := fun ev he => by
  obtain ⟨f1, L, oL, f2, f3, f4, f5, es', n', f6⟩ := F ev he
  refine ⟨f1, L, oL, f2, f3, f4, ?_, es', n', f6⟩
  rw [hs.2 L (by rintro rfl; rw [ho] at f5; cases f5; exact hd _ _ f6)]; exact f5
theorem not_fixed_cls {o : Obj} (h1 : o.cls ≠ .type "tuple") (h2 : o.cls ≠ .type "range") : ¬ Fixed o := fun q => q.1.elim h1 h2

def notedIn (L : Addr) (f : Option Value) : Prop := f = some (rawInt L)
def landed (_ : Addr) (f : Option Value) : Prop := f = some .none

theorem entry_ok {L a : Addr} {oe : Obj} {vs : Array Value} {head : Value} {hadNext : Bool} (hfr : A.frames = some (env :: outer)) (hf : env.frame = some L) (F : FramesOk G.B σ s.heap (env :: outer)) (S : StX G.B D σ₀ s₀ σ s)
    (ha : s₀.heap.get? a = none) (hB : G.B.get? a = none) (hσ : σ a = none) (c1 : oe.cls ≠ .type "tuple") (c2 : oe.cls ≠ .type "range") (he : s.heap.get? a = some oe) (hd : oe.data = .fields vs) (hsz : 1 < vs.size) (hX : X oe.cls σ) :
    wpAny G.M A (do let fo ← frameOf env; let pl ← entryPlaceOf L hadNext; let b ← EntryCells.newEntry head fo .none (rawInt L) .none pl; setField (.ref a) 1 b)
      (fun _ s'' => EXP notedIn (StX G.B D σ₀ s₀) s₀.heap G.B A (some L) X (.ref a) s'') E s := by
  have hna : a ∉ (env :: outer).filterMap (·.frame) := fun hm => by
    obtain ⟨_, _, o, es, n, h5, h6⟩ := frames_mem F hm
    rw [he] at h5; cases h5; rw [hd] at h6; cases h6
  refine wpAny_bind (wpAny_frameOf_fun hfr (frames_fun F) hf fun h₁ hs₁ => ?_)
  refine wpAny_bind (wpAny_entryPlaceOf fun pl hpl => ?_)
  unfold EntryCells.newEntry newFields
  refine wpAny_bind (wpAny_newObj_type ?_ (hpl.sizeOk5 _ _ _ _ _))
  have S₁ := slots_st (t := s.toks) S.ok F hs₁
  have he₁ : h₁.get? a = some oe := (hs₁.2.1 a hna).trans he
  have S₂ := St.push (B := G.B) (s := { s with heap := h₁, toks := s.toks }) S₁.ok { cls := .type "traceback", dict := none, data := .fields ([head, .ref L, .none, rawInt L, .none] ++ (if pl.isEmpty then List.replicate 6 Value.none else pl)).toArray } s.toks
  have he₂ := Heap.get?_push_of_some (h := h₁) { cls := .type "traceback", dict := none, data := .fields ([head, .ref L, .none, rawInt L, .none] ++ (if pl.isEmpty then List.replicate 6 Value.none else pl)).toArray } he₁
  refine wpAny_setField he₂ hd hsz ?_
  have S₀₂ := (S.trans S₁.toX).trans S₂.toX
  have F₂ : FramesOk G.B σ (h₁.push { cls := .type "traceback", dict := none, data := .fields ([head, .ref L, .none, rawInt L, .none] ++ (if pl.isEmpty then List.replicate 6 Value.none else pl)).toArray }) (env :: outer) := (F.step S₁.step).step S₂.step
  have hs₃ := Heap.SameBut.update (h₁.push { cls := .type "traceback", dict := none, data := .fields ([head, .ref L, .none, rawInt L, .none] ++ (if pl.isEmpty then List.replicate 6 Value.none else pl)).toArray }) a (Obj.mapFields (·.setIfInBounds 1 (Value.ref h₁.objs.size)))
  have hd₃ := Obj.data_mapFields hd (·.setIfInBounds 1 (Value.ref h₁.objs.size))
  have he₃ := Heap.get?_update_self (Obj.mapFields (·.setIfInBounds 1 (Value.ref h₁.objs.size))) he₂ (Obj.isFreed_of_fields hd₃)
  have hTe : h₁.objs.size ≠ a := Nat.ne_of_gt (Heap.lt_size he₁)
  have hT₂ := Heap.get?_push_size h₁ (o := { cls := .type "traceback", dict := none, data := .fields ([head, .ref L, .none, rawInt L, .none] ++ (if pl.isEmpty then List.replicate 6 Value.none else pl)).toArray }) rfl
  obtain ⟨S₃, frz⟩ := priv_change (t := s.toks) S₀₂ hσ hB (.inr ha) he₂ (not_fixed_cls c1 c2) hs₃.extBut
  refine ⟨a, oe.cls, σ, L, env :: outer, rfl, rfl, hfr, F₂.change he₂ (fun _ _ e => by rw [hd] at e; cases e) hs₃, S₃, ⟨ha, hB, hσ, c1, c2, _, _, he₃, Obj.cls_mapFields _ _, hd₃, .inr ⟨h₁.objs.size, _, _, _, by simp [hsz], ?_, hTe, ?_, ?_, (hs₃.2 _ hTe).trans hT₂, rfl, rfl, ?_, rfl⟩⟩, hX⟩
  · exact (S.trans S₁.toX).new (size_none _)
  · exact Heap.StaysIn.fresh S₁.ok.base
  · exact S₁.ok.top
  · simp

/-- noteFrame in the frame's own environment -/
theorem note_ok {L : Addr} {e : Value} {s' : Shared} (hfr : A.frames = some (env :: outer)) (hf : env.frame = some L) (h : EXS G.B D σ₀ s₀ A (some L) X e s') :
    wpAny G.M A (noteFrame e env) (fun _ s'' => EXP notedIn (StX G.B D σ₀ s₀) s₀.heap G.B A (some L) X e s'') E s' := by
  obtain ⟨a, C, σ', L', l, rfl, hL, hl, hF, S, ⟨h1, h2, h3, c1, c2, oe, vs, h4, h5, h6, h7⟩, q⟩ := h
  cases hL
  rw [hfr] at hl; cases hl
  subst h5
  unfold noteFrame
  simp only [hf]
  rcases h7 with ⟨h7, _⟩ | ⟨T, oT, ts, f, t1, t2, t3, t4, t5, t6, tc, t7, t8, t9⟩
  · refine wpAny_bind (wpAny_field h4 h6 h7 ?_)
    rw [if_neg (by decide)]
    exact entry_ok hfr hf hF S h1 h2 h3 c1 c2 h4 h6 (Array.getElem?_eq_some_iff.mp h7).1 q
  · refine wpAny_bind (wpAny_field h4 h6 t1 ?_)
    rw [if_pos (show (Value.ref T != Value.none) = true from by simp)]
    refine wpAny_bind (wpAny_field t6 t7 t8 ?_)
    rcases t9 with rfl | rfl
    · rw [if_neg (show ¬ ((Value.none == rawInt L) = true) from by simp [rawInt])]
      have hs := Heap.SameBut.update s'.heap T (Obj.mapFields (·.setIfInBounds 3 Value.none))
      refine wpAny_bind (wpAny_setField t6 t7 (Array.getElem?_eq_some_iff.mp t8).1 ?_)
      obtain ⟨S', frz⟩ := priv_change (t := s'.toks) S t5 t4 (.inr t2) t6 (not_fixed_cls (by rw [tc]; decide) (by rw [tc]; decide)) hs.extBut
      exact entry_ok hfr hf (hF.change t6 (fun _ _ e => by rw [t7] at e; cases e) hs) S' h1 h2 h3 c1 c2 ((hs.2 a (Ne.symm t3)).trans h4) h6 (Array.getElem?_eq_some_iff.mp t1).1 q
    · rw [if_pos (by simp)]
      exact wpAny_pure ⟨a, oe.cls, σ', L, env :: outer, rfl, rfl, hfr, hF, S, ⟨h1, h2, h3, c1, c2, oe, vs, h4, rfl, h6, .inr ⟨T, oT, ts, _, t1, t2, t3, t4, t5, t6, tc, t7, t8, rfl⟩⟩, q⟩

/-- setFlight behind it -/
theorem flight_ok {L : Addr} {e : Value} {s' : Shared} {fr : Option Addr} {R : Unit → Shared → Prop} (h : EXP notedIn (StX G.B D σ₀ s₀) s₀.heap G.B A (some L) X e s')
    (k : ∀ s'', EXP (fun _ f => f = some (fr.elim .none fun x => rawInt x)) (StX G.B D σ₀ s₀) s₀.heap G.B A (some L) X e s'' → R () s'') : wpAny G.M A (setFlight e fr) R E s' := by
  obtain ⟨a, C, σ', L', l, rfl, hL, hl, hF, S, ⟨h1, h2, h3, c1, c2, oe, vs, h4, h5, h6, h7⟩, q⟩ := h
  cases hL
  rcases h7 with ⟨_, h7⟩ | ⟨T, oT, ts, f, t1, t2, t3, t4, t5, t6, tc, t7, t8, t9⟩
  · cases h7
  · unfold setFlight
    refine wpAny_bind (wpAny_field h4 h6 t1 ?_)
    rw [if_pos (show (Value.ref T != Value.none) = true from by simp)]
    have hlt := (Array.getElem?_eq_some_iff.mp t8).1
    have hs := Heap.SameBut.update s'.heap T (Obj.mapFields (·.setIfInBounds 3 (fr.elim Value.none fun f => rawInt f)))
    refine wpAny_setField t6 t7 hlt (k _ ?_)
    obtain ⟨S', frz⟩ := priv_change (t := s'.toks) S t5 t4 (.inr t2) t6 (not_fixed_cls (by rw [tc]; decide) (by rw [tc]; decide)) hs.extBut
    have hd₃ := Obj.data_mapFields t7 (·.setIfInBounds 3 (fr.elim Value.none fun f => rawInt f))
    refine ⟨a, C, σ', L, l, rfl, rfl, hl, hF.change t6 (fun _ _ e => by rw [t7] at e; cases e) hs, S', ⟨h1, h2, h3, c1, c2, oe, vs, (hs.2 a (Ne.symm t3)).trans h4, h5, h6, .inr ⟨T, _, _, _, t1, t2, t3, t4, t5, Heap.get?_update_self _ t6 (Obj.isFreed_of_fields hd₃), (Obj.cls_mapFields _ _).trans tc, hd₃, ?_, rfl⟩⟩, q⟩
    simp [hlt]
/-- an exception in a loop's turn: noted, and back in the block -/
theorem loop_exc {e : Value} {s' : Shared} (hfr : A.frames = some (env :: outer)) (h : EXS G.B D σ₀ s₀ A env.frame X e s') :
    notedBy G.M A env (cameBackBy G.M A env (EXS G.B D σ₀ s₀ A env.frame X)) e s' := by
  cases hf : env.frame with
  | none => rw [hf] at h; obtain ⟨_, _, _, _, _, _, hL, _⟩ := h; cases hL
  | some L =>
    rw [hf] at h
    unfold notedBy
    refine wpAny_mono (note_ok (E := fun _ _ => False) hfr hf h) (fun _ s'' h' => ?_) fun _ _ x => x.elim
    unfold cameBackBy
    have h'' := h'
    obtain ⟨a, C, σ', L', l, rfl, hL, hl, hF, S, ⟨h1, h2, h3, c1, c2, oe, vs, h4, h5, h6, h7⟩, q⟩ := h'
    rcases h7 with ⟨_, h7⟩ | ⟨T, oT, ts, f, t1, t2, t3, t4, t5, t6, tc, t7, t8, t9⟩
    · cases h7
    · refine wpAny_bind (wpAny_field h4 h6 t1 ?_)
      rw [if_neg (show ¬ ((Value.ref T == Value.none) = true) from by simp)]
      rw [hf]
      refine flight_ok h'' fun s3 h3 => EXP.to h3 (fun _ x => x) (fun _ x => x) fun L f hL hx => ?_
      cases hL; subst hx; exact .inr rfl
end
end Mine

set_option autoImplicit false
set_option maxRecDepth 100000
namespace Mine
open PySem PyProof.Rows

/-! ## iterators -/
def ownTs : List String := ["enumerate", "zip", "dict_itemiterator", "dict_reverseitemiterator", "odict_iterator", "itertools.zip_longest", "itertools.pairwise"]
inductive ItAt (G : Gl) (h : Heap) (it : Addr) : Value → V → Nat → Prop
  | list {a : Addr} {i : Nat} : h.IsListIter it a i → ItAt G h it (.ref a) (.ref a) i
  | lst {a : Addr} {xs : List V} {i : Nat} : h.IsListIter it a i → ItAt G h it (.ref a) (.lst xs) i
  | tup {a : Addr} {xs : List V} {i : Nat} : h.IsTupleIter it a i → ItAt G h it (.ref a) (.tup xs) i
  | rng {r : Addr} {a b : Int} {i : Nat} : IsRangeIter h it (a + (i : Nat) * 1) (((b - a).toNat : Int) - (i : Nat)) 1 → ItAt G h it (.ref r) (.rng a b) i
  | str {a : List Nat} {t : Tok} {T : String} {i : Nat} (hw : ∀ A' : Around, A'.handled = none → Walks G.prog G.w A' it [it] [it] a.length (SignAt ⟨a.toArray⟩) (fun i h => h.IsStrIter it T ⟨a.toArray⟩ t i)) :
      T ≠ "tuple" → T ≠ "range" → ownTs.contains T = false → h.IsStrIter it T ⟨a.toArray⟩ t i → ItAt G h it (.str ⟨a.toArray⟩ t) (.str a) i

section
variable {G : Gl} {m : Md} {A : Around} {σ : Hp} {s : Shared} {E : Value → Shared → Prop}

theorem ItAt.obj {h : Heap} {it : Addr} {cv : Value} {v : V} {i : Nat} (I : ItAt G h it cv v i) : ∃ o vs, h.get? it = some o ∧ o.data = .fields vs ∧ ¬ Fixed o := by
  cases I with
  | list q => obtain ⟨o, ho, hc, hd⟩ := q; exact ⟨o, _, ho, hd, not_fixed_cls (by rw [hc]; decide) (by rw [hc]; decide)⟩
  | lst q => obtain ⟨o, ho, hc, hd⟩ := q; exact ⟨o, _, ho, hd, not_fixed_cls (by rw [hc]; decide) (by rw [hc]; decide)⟩
  | tup q => obtain ⟨o, ho, hc, hd⟩ := q; exact ⟨o, _, ho, hd, not_fixed_cls (by rw [hc]; decide) (by rw [hc]; decide)⟩
  | rng q => exact ⟨_, _, q, rfl, not_fixed_cls (by simp) (by simp)⟩
  | str hw h1 h2 h3 q => obtain ⟨o, ho, hc, hd⟩ := q; exact ⟨o, _, ho, hd, not_fixed_cls (by rw [hc]; simpa using h1) (by rw [hc]; simpa using h2)⟩
theorem ItAt.same {h h' : Heap} {it : Addr} {cv : Value} {v : V} {i : Nat} (I : ItAt G h it cv v i) (k : ∀ o, h.get? it = some o → h'.get? it = some o) : ItAt G h' it cv v i := by
  cases I with
  | list q => obtain ⟨o, ho, r⟩ := q; exact .list ⟨o, k o ho, r⟩
  | lst q => obtain ⟨o, ho, r⟩ := q; exact .lst ⟨o, k o ho, r⟩
  | tup q => obtain ⟨o, ho, r⟩ := q; exact .tup ⟨o, k o ho, r⟩
  | rng q => exact .rng (k _ q)
  | str hw h1 h2 h3 q => obtain ⟨o, ho, r⟩ := q; exact .str hw h1 h2 h3 ⟨o, k o ho, r⟩

theorem list_obj {a : Addr} {ys : List V} (H : HOk G.B σ s.heap) (h : σ a = some (.list ys)) : ∃ vs : List Value, s.heap.IsList a vs.toArray ∧ RelL G.B s.heap vs ys :=
  let ⟨vs, hl, r⟩ := H.cells a _ h; ⟨vs, hl.isList, r⟩
theorem base_list {a : Addr} {vs : List Value} (H : HOk G.B σ s.heap) (h : G.B.IsList a vs.toArray) : s.heap.IsList a vs.toArray := let ⟨o, ho, x⟩ := h; ⟨o, H.base _ _ ho, x⟩

theorem iter_ok {cv : Value} {v : V} {xs : List V} {R : Value → Shared → Prop} (H : HOk G.B σ s.heap) (r : Rel G.B s.heap cv v) (hi : itemsOf σ v = some xs)
    (k : ∀ it s₁, St G.B σ s σ s₁ → s.heap.get? it = none → ItAt G s₁.heap it cv v 0 → R (.ref it) s₁) : wpAny G.M A (pyIter cv) R E s := by
  unfold itemsOf at hi
  split at hi
  · split at hi
    · rename_i a ys hσ
      cases r
      obtain ⟨vs, hl, rl⟩ := list_obj H hσ
      exact wpAny_pyIter_list hl (k _ _ (St.push H _ _) (size_none _) (.list ⟨_, Heap.get?_push_size _ rfl, rfl, rfl⟩))
    · cases hi
  · cases r with | tup ht rl =>
    exact wpAny_pyIter_tuple ht (k _ _ (St.push H _ _) (size_none _) (.tup ⟨_, Heap.get?_push_size _ rfl, rfl, rfl⟩))
  · cases r with | lst hl rl =>
    exact wpAny_pyIter_list (base_list H hl) (k _ _ (St.push H _ _) (size_none _) (.lst ⟨_, Heap.get?_push_size _ rfl, rfl, rfl⟩))
  · rename_i a b
    cases r with | rng hr h1 h2 h3 h4 =>
    refine wpAny_pyIter_range hr (small_one h1 h2 h3 h4) (k _ _ (St.push H _ _) (size_none _) (.rng ?_))
    have e : Builtin.Range.rangeSize a b 1 = ((b - a).toNat : Int) := by rw [rangeSize_one]; split <;> omega
    rw [e]
    have := Heap.get?_push_size s.heap (o := { cls := .type "range_iterator", data := .fields #[rawInt a, rawInt ((b - a).toNat : Int), rawInt 1] }) rfl
    show Heap.get? _ _ = _
    simpa using this
  · rename_i a
    cases r with | str _ t =>
    cases ha : (⟨a.toArray⟩ : Str).cps.all (· < 128)
    · exact wpAny_pyIter_wide ha (k _ _ (St.push H _ _) (size_none _) (.str (T := "str_iterator") (fun A' hA => by have := Walks.strWide (prog := G.prog) (w := G.w) hA s.heap.objs.size ⟨a.toArray⟩ t; simpa using this) (by decide) (by decide) (by decide) ⟨_, Heap.get?_push_size _ rfl, rfl, rfl⟩))
    · exact wpAny_pyIter_ascii ha (k _ _ (St.push H _ _) (size_none _) (.str (T := "str_ascii_iterator") (fun A' hA => by have := Walks.strAscii (prog := G.prog) (w := G.w) hA s.heap.objs.size ⟨a.toArray⟩ t; simpa using this) (by decide) (by decide) (by decide) ⟨_, Heap.get?_push_size _ rfl, rfl, rfl⟩))
  · cases hi

theorem next_ok {it : Addr} {cv : Value} {v x : V} {xs : List V} {i : Nat} {R : Option Value → Shared → Prop} (hh : A.handled = none) (H : HOk G.B σ s.heap) (r : Rel G.B s.heap cv v) (I : ItAt G s.heap it cv v i) (hi : itemsOf σ v = some xs) (hx : xs[i]? = some x)
    (k : ∀ v' h' t, (Frozen s.heap h' → Rel G.B h' v' x) → Heap.ExtBut it s.heap h' → ItAt G h' it cv v (i + 1) → R (some v') { s with heap := h', toks := t }) : wpAny G.M A (pyNext (.ref it)) R E s := by
  unfold itemsOf at hi
  split at hi
  · split at hi
    · rename_i a ys hσ
      cases hi; cases I with | list I =>
      obtain ⟨vs, hl, rl⟩ := list_obj H hσ
      obtain ⟨v', hv', rv'⟩ := rl.get hx
      exact wpAny_pyNext_list_item I hl (by simpa using hv') fun h' I' hs' => k v' h' s.toks (fun f => rv'.mono f) hs'.extBut (.list I')
    · cases hi
  · cases hi; cases I with | tup I => cases r with | tup ht rl =>
    obtain ⟨v', hv', rv'⟩ := rl.get hx
    exact wpAny_pyNext_tuple_item I ht (by simpa using hv') fun h' I' hs' => k v' h' s.toks (fun f => rv'.mono f) hs'.extBut (.tup I')
  · cases hi; cases I with | lst I => cases r with | lst hl rl =>
    obtain ⟨v', hv', rv'⟩ := rl.get hx
    exact wpAny_pyNext_list_item I (base_list H hl) (by simpa using hv') fun h' I' hs' => k v' h' s.toks (fun f => rv'.mono f) hs'.extBut (.lst I')
  · rename_i a b
    cases hi; cases I with | rng I =>
    rw [List.getElem?_map] at hx
    have hlt : i < (b - a).toNat := by
      apply Classical.byContradiction; intro hn
      rw [List.getElem?_eq_none (by simpa using hn)] at hx; cases hx
    rw [List.getElem?_range hlt] at hx
    cases hx
    have W := Walks.range (prog := G.prog) (w := G.w) hh it a 1 (b - a).toNat
    refine W.item i s R E hlt I fun v' h' tk hP hst hk => ?_
    obtain ⟨t', rfl⟩ := hP
    refine k _ h' tk (fun _ => ?_) (fun b o hb e => hk b o (by simpa using hb) e) (.rng hst)
    have := Rel.int (B := G.B) (h := h') (a + (i : Int)) t'
    simpa using this
  · rename_i a
    cases hi; cases I with | str hw h1 h2 h3 I =>
    rw [List.getElem?_map] at hx
    cases hc : a[i]? with
    | none => rw [hc] at hx; cases hx
    | some c =>
      rw [hc] at hx; cases hx
      have hlt := (List.getElem?_eq_some_iff.mp hc).1
      refine (hw A hh).item i s R E hlt I fun v' h' tk hP hst hk => ?_
      obtain ⟨c', u, hc', rfl⟩ := hP
      have : c' = c := by simpa [hc] using hc'.symm
      subst this
      exact k _ h' tk (fun _ => .str [c'] u) (fun b o hb e => hk b o (by simpa using hb) e) (.str hw h1 h2 h3 hst)
  · cases hi

theorem next_end {it : Addr} {cv : Value} {v : V} {xs : List V} {R : Option Value → Shared → Prop} (hh : A.handled = none) (H : HOk G.B σ s.heap) (r : Rel G.B s.heap cv v) (I : ItAt G s.heap it cv v xs.length) (hi : itemsOf σ v = some xs)
    (k : ∀ h' t, Heap.ExtBut it s.heap h' → R none { s with heap := h', toks := t }) : wpAny G.M A (pyNext (.ref it)) R E s := by
  unfold itemsOf at hi
  split at hi
  · split at hi
    · rename_i a ys hσ
      cases hi; cases I with | list I =>
      obtain ⟨vs, hl, rl⟩ := list_obj H hσ
      exact wpAny_pyNext_list_end hh I hl (by simp [rl.length]) fun h' hs' => k h' s.toks hs'
    · cases hi
  · cases hi; cases I with | tup I => cases r with | tup ht rl =>
    exact wpAny_pyNext_tuple_end hh I ht (by simp [rl.length]) fun h' hs' => k h' s.toks hs'
  · cases hi; cases I with | lst I => cases r with | lst hl rl =>
    exact wpAny_pyNext_list_end hh I (base_list H hl) (by simp [rl.length]) fun h' hs' => k h' s.toks hs'
  · rename_i a b
    cases hi; cases I with | rng I =>
    rw [List.length_map, List.length_range] at I
    have W := Walks.range (prog := G.prog) (w := G.w) hh it a 1 (b - a).toNat
    exact W.done s R E I fun h' tk hk => k h' tk fun b o hb e => hk b o (by simpa using hb) e
  · rename_i a
    cases hi; cases I with | str hw h1 h2 h3 I =>
    rw [List.length_map] at I
    exact (hw A hh).done s R E I fun h' tk hk => k h' tk fun b o hb e => hk b o (by simpa using hb) e
  · cases hi
end
end Mine

set_option autoImplicit false
set_option maxRecDepth 100000
namespace Mine
open PySem PyProof.Rows

section
variable {sc : Scope} {ns : List Str} {e : PySem.Expr}
def notSet : PySem.Expr → Bool
  | .Set .. => false
  | _ => true
theorem chk_notSet {c : CE} (h : chkE sc ns c e = true) : notSet e = true := by
  cases e <;> first | rfl | (exfalso; cases c <;> exact absurd h Bool.false_ne_true)
theorem fold_none {e : PySem.Expr} (h : notSet e = true) (env : Env) (x : Value) : foldedSetIterable e env x = pure x := by
  cases e <;> first | rfl | cases h
theorem swaps_no {v : PySem.Expr} (h : isComp v = false) (t : PySem.Expr) (line : Nat) (env : Env) : swapsWith v (some t) line env = pure false := by
  cases v <;> first | rfl | cases h
theorem swaps_no0 {v : PySem.Expr} (h : isComp v = false) (line : Nat) (env : Env) : swapsWith v none line env = pure false := by
  cases v <;> first | rfl | cases h
end

def SS (G : Gl) (c : CS) : Prop := ∀ (m : Md) (sc : Scope) (ns : List Str) (st : PySem.Stmt), chkS sc ns c st = true → ∀ (A : Around) (env : Env) (ρ : List V) (σ : Hp) (s : Shared) (K : KS) (X : Value → Hp → Prop),
  env.scope = sc → FOk G m A env ns ρ σ s → wpS G m c ρ σ K X → wpAny G.M A (exec st env) (PS G m A env ns σ s K) (EXS G.B (Own env) σ s A env.frame X) s
def SSs (G : Gl) (cs : List CS) : Prop := ∀ (m : Md) (sc : Scope) (ns : List Str) (sts : List PySem.Stmt), chkSs sc ns cs sts = true → ∀ (A : Around) (env : Env) (ρ : List V) (σ : Hp) (s : Shared) (K : KS) (X : Value → Hp → Prop),
  env.scope = sc → FOk G m A env ns ρ σ s → wpSs G m cs ρ σ K X → wpAny G.M A (execs sts env) (PS G m A env ns σ s K) (EXS G.B (Own env) σ s A env.frame X) s

section
variable {G : Gl} {m : Md} {A : Around} {env : Env} {ns : List Str} {ρ : List V} {σ : Hp} {s : Shared} {X : Value → Hp → Prop}

theorem ofE {t : Sem Value} {Q : V → Hp → Prop} {R : Value → Shared → Prop} (h : wpAny G.M A t (PV G.B σ s Q) (EX G.B σ s A env.frame X) s) (H : HOk G.B σ s.heap)
    (k : ∀ v x σ₁ s₁, St G.B σ s σ₁ s₁ → Rel G.B s₁.heap v x → Q x σ₁ → R v s₁) : wpAny G.M A t R (EXS G.B (Own env) σ s A env.frame X) s :=
  wpAny_mono h (fun v s₁ ⟨x, σ₁, S, r, q⟩ => k v x σ₁ s₁ S r q) fun _ _ e => EX.toS (StX.refl H) e
theorem ofT {t : Sem Bool} {Q : Bool → Hp → Prop} {R : Bool → Shared → Prop} (h : wpAny G.M A t (PB G.B σ s Q) (EX G.B σ s A env.frame X) s) (H : HOk G.B σ s.heap)
    (k : ∀ b σ₁ s₁, St G.B σ s σ₁ s₁ → Q b σ₁ → R b s₁) : wpAny G.M A t R (EXS G.B (Own env) σ s A env.frame X) s :=
  wpAny_mono h (fun v s₁ ⟨σ₁, S, q⟩ => k v σ₁ s₁ S q) fun _ _ e => EX.toS (StX.refl H) e
theorem wpS_from {t : Sem Flow} {K : KS} {σ₁ : Hp} {s₁ : Shared} (S : StX G.B (Own env) σ s σ₁ s₁) (h : wpAny G.M A t (PS G m A env ns σ₁ s₁ K) (EXS G.B (Own env) σ₁ s₁ A env.frame X) s₁) :
    wpAny G.M A t (PS G m A env ns σ s K) (EXS G.B (Own env) σ s A env.frame X) s₁ :=
  wpAny_mono h (fun _ _ q => q.from S) fun _ _ e => EXS.from S e

theorem nameOK_inv {sc : Scope} {i : Nat} {x : Str} (h : nameOK sc ns i x = true) : ns[i]? = some x ∧ (sc.names.lookup x = some .local ∨ sc.names.lookup x = some .cell) := by
  unfold nameOK at h
  obtain ⟨h1, h2⟩ := and2 h
  obtain ⟨h3, h4⟩ := and2 h1
  exact ⟨eq_of_beq h3, (Bool.or_eq_true_iff.mp h4).imp (fun q => eq_of_beq q) (fun q => eq_of_beq q)⟩

theorem ss_asg (GO : G.Ok) {i : Nat} {e : CE} : SS G (.asg i e) := fun m sc ns st hc A env ρ σ s K X hs F h => by
  cases st <;> first | exact absurd hc Bool.false_ne_true | skip
  rename_i ts v p
  match ts, hc with
  | [.Name x px], hc =>
    obtain ⟨h1, h3⟩ := and2 (show (nameOK sc ns i x && chkE sc ns e v && (!isComp v || (px.line == v.pos.line && sc.names.lookup x == some .local))) = true from hc)
    obtain ⟨h1, h2⟩ := and2 h1
    obtain ⟨hx, hk⟩ := nameOK_inv h1
    have hv : isComp v = false := by
      cases hv : isComp v with
      | false => rfl
      | true =>
        exfalso
        cases v <;> first | cases hv | skip
        all_goals (cases e <;> first | exact absurd h2 Bool.false_ne_true | exact h)
    subst hs
    refine wpAny_Assign_Name (ofE ((sound GO e).1 m _ ns v h2 A env ρ σ s _ X rfl F.e h) F.e.heap fun v' x' σ₁ s₁ S r q => ?_) (swaps_no hv _ _ _)
    refine store_ok (F.step S) hx hk r fun h' t F' S' _ => ?_
    exact ⟨.next, _, σ₁, trivial, F', S.toX.trans S', q⟩
theorem ss_expr (GO : G.Ok) {e : CE} : SS G (.expr e) := fun m sc ns st hc A env ρ σ s K X hs F h => by
  cases st <;> first | exact absurd hc Bool.false_ne_true | skip
  rename_i v p
  obtain ⟨h1, h2⟩ := and2 (show (chkE sc ns e v && !isComp v) = true from hc)
  have hv : isComp v = false := by simpa using h2
  subst hs
  refine wpAny_Expr_any (ofE ((sound GO e).1 m _ ns v h1 A env ρ σ s _ X rfl F.e h) F.e.heap fun v' x' σ₁ s₁ S r q => ?_) ?_ (swaps_no0 hv _ _)
  · exact ⟨.next, _, σ₁, trivial, F.step S, S.toX, q⟩
  · unfold interactive; rw [F.e.eok.kind]; rfl
theorem ss_ret (GO : G.Ok) {e : CE} : SS G (.ret e) := fun m sc ns st hc A env ρ σ s K X hs F h => by
  cases st <;> first | exact absurd hc Bool.false_ne_true | skip
  rename_i v p
  cases v <;> first | exact absurd hc Bool.false_ne_true | skip
  rename_i v
  subst hs
  refine wpAny_Return_some (ofE ((sound GO e).1 m _ ns v hc A env ρ σ s _ X rfl F.e h) F.e.heap fun v' x' σ₁ s₁ S r q => ?_)
  exact ⟨.ret x', _, σ₁, r, F.step S, S.toX, q⟩
theorem ss_retN : SS G .retN := fun m sc ns st hc A env ρ σ s K X hs F h => by
  cases st <;> first | exact absurd hc Bool.false_ne_true | skip
  rename_i v p
  cases v <;> first | exact absurd hc Bool.false_ne_true | skip
  exact wpAny_Return_none ⟨.ret .none, _, σ, .none, F, .refl F.e.heap, h⟩
theorem ss_pass : SS G .pass := fun m sc ns st hc A env ρ σ s K X hs F h => by
  cases st <;> first | exact absurd hc Bool.false_ne_true | skip
  exact wpAny_Pass ⟨.next, _, σ, trivial, F, .refl F.e.heap, h⟩
theorem ss_ite (GO : G.Ok) {c : CE} {a b : List CS} (ha : SSs G a) (hb : SSs G b) : SS G (.ite c a b) := fun m sc ns st hc A env ρ σ s K X hs F h => by
  cases st <;> first | exact absurd hc Bool.false_ne_true | skip
  rename_i t x y p
  obtain ⟨h1, h3⟩ := and2 (show (chkE sc ns c t && chkSs sc ns a x && chkSs sc ns b y) = true from hc)
  obtain ⟨h1, h2⟩ := and2 h1
  subst hs
  refine wpAny_If (ofT ((sound GO c).2 m _ ns t h1 A env ρ σ s _ X rfl F.e h) F.e.heap fun bb σ₁ s₁ S q => ?_)
  cases bb with
  | true => exact wpS_from S.toX (ha m _ ns x h2 A env ρ σ₁ s₁ K X rfl (F.step S) q)
  | false => exact wpS_from S.toX (hb m _ ns y h3 A env ρ σ₁ s₁ K X rfl (F.step S) q)
theorem sss_nil : SSs G [] := fun m sc ns st hc A env ρ σ s K X hs F h => by
  cases st <;> first | exact absurd hc Bool.false_ne_true | skip
  exact wpAny_execs_nil ⟨.next, _, σ, trivial, F, .refl F.e.heap, h⟩
theorem sss_cons {c : CS} {cs : List CS} (h1 : SS G c) (h2 : SSs G cs) : SSs G (c :: cs) := fun m sc ns st hc A env ρ σ s K X hs F h => by
  cases st <;> first | exact absurd hc Bool.false_ne_true | skip
  rename_i st sts
  obtain ⟨g1, g2⟩ := and2 (show (chkS sc ns c st && chkSs sc ns cs sts) = true from hc)
  refine wpAny_execs_cons (wpAny_mono (h1 m sc ns st g1 A env ρ σ s _ X hs F h) (fun f s₁ hp => ?_) fun _ _ e => e)
  obtain ⟨fl, ρ₁, σ₁, r, F₁, S₁, q⟩ := hp
  cases f <;> cases fl <;> first | exact r.elim | skip
  · exact wpS_from S₁ (h2 m sc ns sts g2 A env ρ₁ σ₁ s₁ K X hs F₁ q)
  · exact ⟨_, ρ₁, σ₁, r, F₁, S₁, q⟩

/-- errors inside a loop of the frame -/
theorem loopE {α : Type} {t : Sem α} {R : α → Shared → Prop} {σ₁ : Hp} {s₁ : Shared} (hfr : ∃ outer, A.frames = some (env :: outer)) (S : StX G.B (Own env) σ s σ₁ s₁)
    (h : wpAny G.M A t R (EXS G.B (Own env) σ₁ s₁ A env.frame X) s₁) : wpAny G.M A t R (notedBy G.M A env (cameBackBy G.M A env (EXS G.B (Own env) σ s A env.frame X))) s₁ := by
  obtain ⟨outer, hfr⟩ := hfr
  exact wpAny_mono h (fun _ _ q => q) fun _ _ e => loop_exc hfr (EXS.from S e)

theorem ss_whl (GO : G.Ok) {c : CE} {b : List CS} (hb : SSs G b) : SS G (.whl c b) := fun m sc ns st hc A env ρ σ s K X hs F h => by
  cases st <;> first | exact absurd hc Bool.false_ne_true | skip
  rename_i t x y p
  cases y <;> first | exact absurd hc Bool.false_ne_true | skip
  obtain ⟨h1, h2⟩ := and2 (show (chkE sc ns c t && chkSs sc ns b x) = true from hc)
  subst hs
  obtain ⟨I, ⟨n, hI⟩, turn⟩ := h
  refine wpAny_While (codeAny_whileLoop (fun k s' => ∃ ρ' σ', FOk G m A env ns ρ' σ' s' ∧ StX G.B (Own env) σ s σ' s' ∧ I k ρ' σ') ?_ n ⟨ρ, σ, F, .refl F.e.heap, hI⟩)
  rintro k s' ⟨ρ', σ', F', S', hI'⟩
  refine loopE (X := X) F'.top S' (ofT ((sound GO c).2 m _ ns t h1 A env ρ' σ' s' _ X rfl F'.e (turn k ρ' σ' hI')) F'.e.heap fun bb σ₁ s₁ S q => ?_)
  cases bb with
  | true =>
    refine loopE (X := X) F'.top (S'.trans S.toX) (wpAny_mono (hb m _ ns x h2 A env ρ' σ₁ s₁ _ X rfl (F'.step S) q) (fun f s₂ hp => ?_) fun _ _ e => e)
    obtain ⟨fl, ρ₂, σ₂, r, F₂, S₂, q₂⟩ := hp
    have S₃ := (S'.trans S.toX).trans S₂
    cases f <;> cases fl <;> first | exact r.elim | skip
    · obtain ⟨k', hk', hI₂⟩ := q₂
      exact ⟨k', hk', ρ₂, σ₂, F₂, S₃, hI₂⟩
    · exact ⟨_, ρ₂, σ₂, r, F₂, S₃, q₂⟩
  | false =>
    exact wpAny_execs_nil ⟨.next, ρ', σ₁, trivial, F'.step S, S'.trans S.toX, q⟩
end
end Mine

set_option autoImplicit false
set_option maxRecDepth 100000
namespace Mine
open PySem PyProof.Rows

section
variable {prog : Program} {w : World} {A : Around}
/-- the library's rule for a for loop, with what an owned tuple's going wants of its own -/
theorem forLoop_rule {R : Result → Shared → Prop} {target : PySem.Expr} {it : Value} {body orelse : List PySem.Stmt} {env : Env} {s : Shared} (I : Nat → Shared → Prop)
    (turn : ∀ n s, I n s → wpAny (model prog w) A (pyNext it) (fun r s₁ => match r with
      | none => wpAny (model prog w) A (execs orelse env) (fun f s₃ => R (.ok f) s₃) (notedBy (model prog w) A env fun e s' => R (.error e) s') s₁
      | some v => wpAny (model prog w) A (letOwnedTupleGo target it v) (fun _ s₁' => wpAny (model prog w) A (assign target env v) (fun _ s₂ => wpAny (model prog w) A (execs body env) (fun f s₃ => match f with
          | .next | .cont => ∃ m, m < n ∧ I m s₃
          | .brk => R (.ok .next) s₃
          | .ret v => R (.ok (.ret v)) s₃) (notedBy (model prog w) A env fun e s' => R (.error e) s') s₂) (notedBy (model prog w) A env fun e s' => R (.error e) s') s₁') (notedBy (model prog w) A env fun e s' => R (.error e) s') s₁) (notedBy (model prog w) A env fun e s' => R (.error e) s') s)
    (n : Nat) (h : I n s) : codeAny (model prog w) A (.forLoop target it body orelse env) R s := by
  refine codeAny_loop' rfl I (fun n s hI => ?_) n h
  show wpAny _ _ ((forTurn target it body orelse env).onRaise (fun x => do noteFrame x env; theTreesLotGoes x)) _ _ s
  refine wpAny_noted ?_
  simp only [forTurn]
  refine wpAny_bind (wpAny_standAt (wpAny_bind (wpAny_onRaise (wpAny_mono (turn n s hI) (fun r s₁ h₁ => ?_) fun _ _ h' => wpAny_standAt h'))))
  cases r with
  | none => exact wpAny_pure (.inr ⟨rfl, codeAny_block h₁⟩)
  | some v =>
    refine wpAny_bind (wpAny_mono h₁ (fun _ s₁' h₁' => ?_) fun _ _ h' => h')
    refine wpAny_bind (wpAny_mono h₁' (fun _ s₂ h₂ => wpAny_bind (wpAny_mono h₂ (fun f s₃ h₃ => ?_) fun _ _ h' => h')) fun _ _ h' => h')
    cases f with
    | next => exact wpAny_pure (.inl ⟨rfl, h₃⟩)
    | cont => exact wpAny_pure (.inl ⟨rfl, h₃⟩)
    | brk => exact wpAny_pure h₃
    | ret v => exact wpAny_pure h₃
end

section
variable {G : Gl} {m : Md} {A : Around} {env : Env} {ns : List Str} {ρ : List V} {σ : Hp} {s : Shared} {X : Value → Hp → Prop} {E : Value → Shared → Prop}

theorem owned_go {target : PySem.Expr} {it : Addr} {cv v' : Value} {v : V} {i : Nat} {R : Unit → Shared → Prop} (I : ItAt G s.heap it cv v i) (k : R () s) : wpAny G.M A (letOwnedTupleGo target (.ref it) v') R E s := by
  have key : ∀ {o : Obj} {T : String} {vs : Array Value}, s.heap.get? it = some o → o.cls = .type T → o.data = .fields vs →
      ownTs.contains T = false → wpAny G.M A (letOwnedTupleGo target (.ref it) v') R E s := by
    intro o T vs ho hc hd hT
    unfold ownTs at hT
    unfold letOwnedTupleGo
    split
    all_goals first
      | exact wpAny_pure k
      | (split
         all_goals first
           | (rename_i heq
              cases heq
              refine wpAny_bind (wpAny_load ho ?_)
              rw [hc, hd]
              simp only [hT, Bool.false_and, Bool.false_eq_true, if_false]
              exact wpAny_pure k)
           | exact wpAny_pure k)
  cases I with
  | list q => obtain ⟨o, ho, hc, hd⟩ := q; exact key ho hc hd (by decide)
  | lst q => obtain ⟨o, ho, hc, hd⟩ := q; exact key ho hc hd (by decide)
  | tup q => obtain ⟨o, ho, hc, hd⟩ := q; exact key ho hc hd (by decide)
  | rng q => exact key q rfl rfl (by decide)
  | str hw h1 h2 h3 q => obtain ⟨o, ho, hc, hd⟩ := q; exact key ho hc hd h3

/-- storing several names in order -/
theorem stores_ok : ∀ {is : List Nat} {ts : List PySem.Expr} {vs : List Value} {xs : List V} {ρ ρ' : List V} {s : Shared} {R : Unit → Shared → Prop}, chkTs ns env.scope is ts = true → setMany ρ is xs = some ρ' → RelL G.B s.heap vs xs → FOk G m A env ns ρ σ s →
    (∀ h' t, FOk G m A env ns ρ' σ { s with heap := h', toks := t } → StX G.B (Own env) σ s σ { s with heap := h', toks := t } → R () { s with heap := h', toks := t }) → wpAny G.M A (assignInOrder ((assignEach ts env).map (·.2)) vs) R E s
  | [], [], _, [], ρ, ρ', s, R, _, hm, r, F, k => by
    cases r; cases hm
    exact wpAny_pure (k s.heap s.toks F (.refl F.e.heap))
  | [], [], _, _ :: _, _, _, _, _, _, hm, _, _, _ => by cases hm
  | [], _ :: _, _, _, _, _, _, _, hc, _, _, _, _ => absurd hc Bool.false_ne_true
  | _ :: _, [], _, _, _, _, _, _, hc, _, _, _, _ => absurd hc Bool.false_ne_true
  | i :: is, t :: ts, _, [], _, _, _, _, _, hm, _, _, _ => by cases hm
  | i :: is, t :: ts, _, x :: xs, ρ, ρ', s, R, hc, hm, r, F, k => by
    cases t <;> first | exact absurd hc Bool.false_ne_true | skip
    rename_i y p
    obtain ⟨h1, h2⟩ := and2 (show (nameOK env.scope ns i y && chkTs ns env.scope is ts) = true from hc)
    obtain ⟨hx, hk⟩ := nameOK_inv h1
    cases r with | cons rv r =>
    have hm' : setMany (ρ.set i x) is xs = some ρ' := hm
    show wpAny _ A (assignInOrder (assign (.Name y p) env :: (assignEach ts env).map (·.2)) _) _ _ _
    refine wpAny_assignInOrder_more (wpAny_assign_Name (store_ok F hx hk rv fun h' t F' S' frz => ?_))
    refine stores_ok h2 hm' (r.mono frz) F' fun h'' t' F'' S'' => ?_
    exact k h'' t' F'' (S'.trans S'')
theorem assignEach_len : ∀ {is : List Nat} {ts : List PySem.Expr}, chkTs ns env.scope is ts = true → (assignEach ts env).length = is.length ∧ (assignEach ts env).findIdx? (·.1) = none
  | [], [], _ => ⟨rfl, rfl⟩
  | [], _ :: _, hc => absurd hc Bool.false_ne_true
  | _ :: _, [], hc => absurd hc Bool.false_ne_true
  | i :: is, t :: ts, hc => by
    cases t <;> first | exact absurd hc Bool.false_ne_true | skip
    rename_i y p
    obtain ⟨h1, h2⟩ := and2 (show (nameOK env.scope ns i y && chkTs ns env.scope is ts) = true from hc)
    have ih := assignEach_len h2
    have e : assignEach (.Name y p :: ts) env = (false, assign (.Name y p) env) :: assignEach ts env := rfl
    rw [e]
    exact ⟨by simp [ih.1], by simp [List.findIdx?_cons, ih.2]⟩
theorem setMany_len : ∀ {is : List Nat} {xs : List V} {ρ ρ' : List V}, setMany ρ is xs = some ρ' → is.length = xs.length
  | [], [], _, _, _ => rfl
  | [], _ :: _, _, _, h => by cases h
  | _ :: _, [], _, _, h => by cases h
  | _ :: is, _ :: xs, _, _, h => by simp [setMany_len (show setMany _ is xs = some _ from h)]
theorem assignT_ok {is : List Nat} {ts : List PySem.Expr} {kk : Nat} {p : Pos} {v : Value} {xs : List V} {ρ' : List V} {R : Unit → Shared → Prop} (hh : A.handled = none) (hc : chkTs ns env.scope is ts = true) (hm : setMany ρ is xs = some ρ') (r : Rel G.B s.heap v (.tup xs)) (F : FOk G m A env ns ρ σ s)
    (k : ∀ h' t, FOk G m A env ns ρ' σ { s with heap := h', toks := t } → StX G.B (Own env) σ s σ { s with heap := h', toks := t } → R () { s with heap := h', toks := t }) : wpAny G.M A (assign (.Tuple ts kk p) env v) R E s := by
  cases r with | tup ht rl =>
  obtain ⟨e1, e2⟩ := assignEach_len (env := env) hc
  refine wpAny_assign_Tuple hh ht (by rw [e1, setMany_len hm, List.size_toArray, rl.length]) e2 fun h' hs => ?_
  have keep : ∀ b o, s.heap.get? b = some o → h'.get? b = some o := fun b o e => hs b o (Nat.ne_of_lt (Heap.lt_size e)) e
  have S := St.grow (t := s.toks) F.e.heap keep
  refine stores_ok (s := { s with heap := h', toks := s.toks }) hc hm (by simpa using S.relL F.e.heap rl) (F.step S) fun h'' t F' S' => ?_
  exact k h'' t F' (S.toX.trans S')

/-- a for loop, its target stored by whatever assigns it -/
theorem for_ok {target : PySem.Expr} {upd : List V → V → Option (List V)} {body : List CS} {sts : List PySem.Stmt} {xs : List V} {cv : Value} {v : V} {it : Addr} {K : KS} {σ₁ : Hp} {s₁ : Shared}
    (hh : A.handled = none) (hb : SSs G body) (hcb : chkSs env.scope ns body sts = true)
    (hasg : ∀ {ρ ρ' : List V} {σ : Hp} {s : Shared} {v' : Value} {x : V} {R : Unit → Shared → Prop} {E : Value → Shared → Prop}, upd ρ x = some ρ' → Rel G.B s.heap v' x → FOk G m A env ns ρ σ s →
      (∀ h' t, FOk G m A env ns ρ' σ { s with heap := h', toks := t } → StX G.B (Own env) σ s σ { s with heap := h', toks := t } → R () { s with heap := h', toks := t }) → wpAny G.M A (assign target env v') R E s)
    (F : FOk G m A env ns ρ σ₁ s₁) (S : StX G.B (Own env) σ s σ₁ s₁) (hnew : s.heap.get? it = none) (r : Rel G.B s₁.heap cv v) (It : ItAt G s₁.heap it cv v 0) (hσ : σ₁ it = none) (hB : G.B.get? it = none)
    (h : forP xs v upd (fun ρ σ K => wpSs G m body ρ σ K X) ρ σ₁ K) :
    codeAny G.M A (.forLoop target (.ref it) sts [] env) (fun r s' => match r with | .ok f => PS G m A env ns σ s K f s' | .error e => cameBackBy G.M A env (EXS G.B (Own env) σ s A env.frame X) e s') s₁ := by
  obtain ⟨I, hI, turn, done⟩ := h
  refine forLoop_rule (fun k s' => ∃ i ρ' σ', k + i = xs.length + 1 ∧ i ≤ xs.length ∧ FOk G m A env ns ρ' σ' s' ∧ StX G.B (Own env) σ s σ' s' ∧ ItAt G s'.heap it cv v i ∧ σ' it = none ∧ Rel G.B s'.heap cv v ∧ I i ρ' σ') ?_ (xs.length + 1)
    ⟨0, ρ, σ₁, by omega, by omega, F, S, It, hσ, r, hI⟩
  rintro k s' ⟨i, ρ', σ', hk, hi, F', S', It', hσ', r', hI'⟩
  obtain ⟨o, vs, ho, hd, hfix⟩ := It'.obj
  have hown : ¬ Own env it := F'.notOwn ho (fun _ _ e => by rw [hd] at e; cases e) fun _ e => by rw [hd] at e; cases e
  by_cases hlt : i < xs.length
  · obtain ⟨x, hx⟩ : ∃ x, xs[i]? = some x := ⟨xs[i], List.getElem?_eq_getElem hlt⟩
    obtain ⟨hit, ρ₂, hu, hw⟩ := turn i ρ' σ' x hx hI'
    refine loopE (X := X) F'.top S' (next_ok hh F'.e.heap r' It' hit hx fun v' h₁ t₁ hr hs₁ It₁ => ?_)
    obtain ⟨S₁, frz₁⟩ := priv_change (t := t₁) S' hσ' hB (.inr hnew) ho hfix hs₁
    have F₁ : FOk G m A env ns ρ' σ' { s' with heap := h₁, toks := t₁ } := F'.ext ho hd hs₁ frz₁ S₁.ok
    refine owned_go It₁ ?_
    refine hasg hu (hr frz₁) F₁ fun h₂ t₂ F₂ S₂ => ?_
    have It₂ : ItAt G h₂ it cv v (i + 1) := It₁.same fun o' ho' => by
      obtain ⟨_, o'', e, kk⟩ := S₂.keep it o' ho' hσ' hown
      obtain ⟨o1, vs1, ho1, hd1, _⟩ := It₁.obj
      rw [ho1] at ho'; cases ho'
      rcases kk with rfl | ⟨⟨es, n, q⟩, _⟩
      · exact e
      · rw [hd1] at q; cases q
    have r₂ : Rel G.B h₂ cv v := (r'.mono frz₁).mono (F₁.frozen S₂)
    refine loopE (X := X) F₂.top (S₁.trans S₂) (wpAny_mono (hb m _ ns sts hcb A env ρ₂ σ' _ _ X rfl F₂ hw) (fun f s₃ hp => ?_) fun _ _ e => e)
    obtain ⟨fl, ρ₃, σ₃, rf, F₃, S₃, q₃⟩ := hp
    have Sall := (S₁.trans S₂).trans S₃
    cases f <;> cases fl <;> first | exact rf.elim | skip
    · obtain ⟨o2, vs2, ho2, hd2, _⟩ := It₂.obj
      obtain ⟨hσ₃, o3, e3, kk⟩ := S₃.keep it o2 ho2 hσ' hown
      have It₃ : ItAt G s₃.heap it cv v (i + 1) := It₂.same fun o' ho' => by
        rw [ho2] at ho'; cases ho'
        rcases kk with rfl | ⟨⟨es, n, q⟩, _⟩
        · exact e3
        · rw [hd2] at q; cases q
      exact ⟨k - 1, by omega, i + 1, ρ₃, σ₃, by omega, by omega, F₃, Sall, It₃, hσ₃, r₂.mono (F₂.frozen S₃), q₃⟩
    · exact ⟨_, ρ₃, σ₃, rf, F₃, Sall, q₃⟩
  · have hie : i = xs.length := by omega
    subst hie
    obtain ⟨hit, hK⟩ := done ρ' σ' hI'
    refine loopE (X := X) F'.top S' (next_end hh F'.e.heap r' It' hit fun h₁ t₁ hs₁ => ?_)
    obtain ⟨S₁, frz₁⟩ := priv_change (t := t₁) S' hσ' hB (.inr hnew) ho hfix hs₁
    exact wpAny_execs_nil ⟨.next, ρ', σ', trivial, F'.ext ho hd hs₁ frz₁ S₁.ok, S₁, hK⟩
end
end Mine
namespace Mine
open PySem PyProof.Rows
theorem base_out {B : Heap} {σ : Hp} {h : Heap} (H : HOk B σ h) {a : Addr} (hn : h.get? a = none) : B.get? a = none := by
  cases q : B.get? a with
  | none => rfl
  | some o => have := H.base a o q; rw [hn] at this; cases this
end Mine

set_option autoImplicit false
set_option maxRecDepth 100000
namespace Mine
open PySem PyProof.Rows

section
variable {G : Gl}
theorem new_it {B : Heap} {σ σ' : Hp} {s s' : Shared} (S : St B σ s σ' s') {it : Addr} (h : s'.heap.get? it = none) : s.heap.get? it = none := S.new h
theorem ss_for1 (GO : G.Ok) {i : Nat} {ce : CE} {b : List CS} (hb : SSs G b) : SS G (.for1 i ce b) := fun m sc ns st hc A env ρ σ s K X hs F h => by
  cases st <;> first | exact absurd hc Bool.false_ne_true | skip
  rename_i t e body els p
  cases t <;> first | exact absurd hc Bool.false_ne_true | skip
  rename_i x px
  cases els <;> first | exact absurd hc Bool.false_ne_true | skip
  obtain ⟨h1, h3⟩ := and2 (show (nameOK sc ns i x && chkE sc ns ce e && chkSs sc ns b body) = true from hc)
  obtain ⟨h1, h2⟩ := and2 h1
  obtain ⟨hx, hk⟩ := nameOK_inv h1
  subst hs
  obtain ⟨hhd, h⟩ := h
  have hh := F.e.room.handled hhd
  refine wpAny_For (ofE ((sound GO ce).1 m _ ns e h2 A env ρ σ s _ X rfl F.e h) F.e.heap fun cv v σ₁ s₁ S₁ r q => ?_) (fun x => fold_none (chk_notSet h2) env x)
  obtain ⟨xs, hit, hfor⟩ := q
  refine iter_ok S₁.ok r hit fun it s₂ S₂ hnew I => ?_
  refine for_ok (upd := fun ρ x => some (ρ.set i x)) hh hb h3 (fun {ρ ρ' σ s v' x' R E} hu rv F' k => ?_) (F.step (S₁.trans S₂)) (S₁.trans S₂).toX (S₁.new hnew) (S₂.rel S₁.ok r) I (S₁.ok.out hnew) (base_out S₁.ok hnew) hfor
  cases hu
  exact wpAny_assign_Name (store_ok F' hx hk rv fun h' t F'' S'' _ => k h' t F'' S'')
theorem ss_forT (GO : G.Ok) {is : List Nat} {ce : CE} {b : List CS} (hb : SSs G b) : SS G (.forT is ce b) := fun m sc ns st hc A env ρ σ s K X hs F h => by
  cases st <;> first | exact absurd hc Bool.false_ne_true | skip
  rename_i t e body els p
  cases t <;> first | exact absurd hc Bool.false_ne_true | skip
  rename_i ts kk px
  cases els <;> first | exact absurd hc Bool.false_ne_true | skip
  obtain ⟨h1, h3⟩ := and2 (show (chkTs ns sc is ts && chkE sc ns ce e && chkSs sc ns b body) = true from hc)
  obtain ⟨h1, h2⟩ := and2 h1
  subst hs
  obtain ⟨hhd, h⟩ := h
  have hh := F.e.room.handled hhd
  refine wpAny_For (ofE ((sound GO ce).1 m _ ns e h2 A env ρ σ s _ X rfl F.e h) F.e.heap fun cv v σ₁ s₁ S₁ r q => ?_) (fun x => fold_none (chk_notSet h2) env x)
  obtain ⟨xs, hit, hfor⟩ := q
  refine iter_ok S₁.ok r hit fun it s₂ S₂ hnew I => ?_
  refine for_ok (upd := fun ρ x => match x with | .tup ys => setMany ρ is ys | _ => none) hh hb h3 (fun {ρ ρ' σ s v' x' R E} hu rv F' k => ?_) (F.step (S₁.trans S₂)) (S₁.trans S₂).toX (S₁.new hnew) (S₂.rel S₁.ok r) I (S₁.ok.out hnew) (base_out S₁.ok hnew) hfor
  cases x' <;> first | (cases hu; done) | skip
  exact assignT_ok hh h1 hu rv F' k
theorem ss_asgT (GO : G.Ok) {is : List Nat} {ce : CE} : SS G (.asgT is ce) := fun m sc ns st hc A env ρ σ s K X hs F h => by
  cases st <;> first | exact absurd hc Bool.false_ne_true | skip
  rename_i ts v p
  match ts, hc with
  | [.Tuple es kk px], hc =>
    obtain ⟨h1, h4⟩ := and2 (show (chkTs ns sc is es && chkE sc ns ce v && notTupE v && !isComp v) = true from hc)
    obtain ⟨h1, h3⟩ := and2 h1
    obtain ⟨h1, h2⟩ := and2 h1
    subst hs
    obtain ⟨hhd, h⟩ := h
    have hh := F.e.room.handled hhd
    have hv : isComp v = false := by simpa using h4
    have hsw : swappedStores [.Tuple es kk px] v env = pure none := by
      cases v <;> first | rfl | cases h3
    show wpAny _ A (do
      standAt p
      if ← swapsWithSole [.Tuple es kk px] v p.line env then do
        evalThenUse v env fun v => assignAll v ((assignEach [.Tuple es kk px] env).map (·.2))
        pure .next
      else do
        let v' ← eval v env
        assignStores env v' (← swappedStores [.Tuple es kk px] v env) ((assignEach [.Tuple es kk px] env).map (·.2))) _ _ s
    have hso : swapsWithSole [.Tuple es kk px] v p.line env = pure false := by unfold swapsWithSole; exact swaps_no hv _ _ _
    rw [hso, hsw]
    refine wpAny_bind (wpAny_standAt (wpAny_bind (wpAny_pure (wpAny_bind (ofE ((sound GO ce).1 m _ ns v h2 A env ρ σ s _ X rfl F.e h) F.e.heap fun v' x' σ₁ s₁ S r q => ?_)))))
    cases x' <;> first | exact q.elim | skip
    obtain ⟨ρ', hm, hK⟩ := q
    refine wpAny_bind (wpAny_pure ?_)
    show wpAny _ A (assignAll v' [assign (.Tuple es kk px) env] >>= fun _ => pure Flow.next) _ _ s₁
    refine wpAny_bind (assignT_ok hh h1 hm r (F.step S) fun h' t F' S' => wpAny_pure ?_)
    exact ⟨.next, ρ', σ₁, trivial, F', S.toX.trans S', hK⟩

theorem false_ss {c : CS} (h : ∀ m ρ σ K X, wpS G m c ρ σ K X → False) : SS G c := fun _ _ _ _ _ _ _ _ _ _ _ _ _ _ hw => (h _ _ _ _ _ hw).elim
mutual
theorem soundS (GO : G.Ok) : ∀ c : CS, SS G c
  | .asg _ _ => ss_asg GO
  | .asgT _ _ => ss_asgT GO
  | .asgSub _ _ _ => false_ss fun _ _ _ _ _ h => h
  | .asgAttr _ _ _ => false_ss fun _ _ _ _ _ h => h
  | .expr _ => ss_expr GO
  | .ret _ => ss_ret GO
  | .retN => ss_retN
  | .ite _ a b => ss_ite GO (soundSs GO a) (soundSs GO b)
  | .whl _ b => ss_whl GO (soundSs GO b)
  | .for1 _ _ b => ss_for1 GO (soundSs GO b)
  | .forT _ _ b => ss_forT GO (soundSs GO b)
  | .raise _ _ => false_ss fun _ _ _ _ _ h => h
  | .tryx _ _ => false_ss fun _ _ _ _ _ h => h
  | .pass => ss_pass
theorem soundSs (GO : G.Ok) : ∀ cs : List CS, SSs G cs
  | [] => sss_nil
  | c :: cs => sss_cons (soundS GO c) (soundSs GO cs)
end

/-! ## calls of the text's functions -/
structure Fn where
  params : List Str
  locs : List Str
  body : List CS
abbrev Fn.ns (F : Fn) : List Str := F.params ++ F.locs

structure FnAt (G : Gl) (f : Value) (F : Fn) : Prop where
  obj : ∃ a o fd sts, f = .ref a ∧ G.B.get? a = some o ∧ o.data = .func fd ∧ G.B.CodeRec fd.code fd.qualname ∧ fd.body = .stmts sts ∧ fd.closure = [] ∧ fd.globals = mainGlobals ∧ fd.builtins = builtinsNs ∧
    (∀ vs : List Value, vs.length = F.params.length → bindArgs fd ⟨vs, []⟩ = pure (F.params.zip vs)) ∧ fd.scope.isCoroutine = false ∧ fd.scope.isGenerator = false ∧ fd.scope.kind = .function ∧
    ((F.ns.all fun x => fd.scope.names.lookup x == some .local || fd.scope.names.lookup x == some .cell) = true) ∧ (((cellsFrom 0 fd.scope.names []).map (·.1)).Nodup) ∧ chkSs fd.scope F.ns F.body sts = true
  nodup : F.ns.Nodup

theorem zip_miss {ps : List Str} {vs : List Value} {x : Str} (h : x ∉ ps) : ∀ y ∈ ps.zip vs, y.1 ≠ x := fun y hy e => by
  obtain ⟨a, b⟩ := y
  have : a = x := e
  subst this
  exact h (List.of_mem_zip hy).1
theorem bindL_miss {kindOf : Str → Option NameKind} : ∀ {binds : List (Str × Value)} {m : Str → Option Value} {x : Str}, (∀ y ∈ binds, y.1 ≠ x) → bindL kindOf binds m x = m x
  | [], _, _, _ => rfl
  | (n, v) :: r, m, x, h => by
    unfold bindL
    rw [bindL_miss fun y hy => h y (List.mem_cons_of_mem _ hy)]
    have hn : x ≠ n := fun e => h (n, v) (List.mem_cons_self ..) e.symm
    split
    · exact if_neg hn
    · rfl
theorem bindC_miss {kindOf : Str → Option NameKind} : ∀ {binds : List (Str × Value)} {m : Str → Option Value} {x : Str}, (∀ y ∈ binds, y.1 ≠ x) → bindC kindOf binds m x = m x
  | [], _, _, _ => rfl
  | (n, v) :: r, m, x, h => by
    unfold bindC
    rw [bindC_miss fun y hy => h y (List.mem_cons_of_mem _ hy)]
    have hn : x ≠ n := fun e => h (n, v) (List.mem_cons_self ..) e.symm
    split
    · rfl
    · exact if_neg hn
theorem bindL_hit {kindOf : Str → Option NameKind} : ∀ {ps : List Str} {vs : List Value} {m : Str → Option Value} {i : Nat} {x : Str} {v : Value}, ps.Nodup → ps[i]? = some x → vs[i]? = some v → kindOf x = some .local → bindL kindOf (ps.zip vs) m x = some v
  | [], _, _, _, _, _, _, h, _, _ => by simp at h
  | p :: ps, [], _, _, _, _, _, _, h, _ => by simp at h
  | p :: ps, v :: vs, m, 0, x, w, hn, h1, h2, hk => by
    simp at h1 h2; subst h1; subst h2
    rw [List.zip_cons_cons]
    unfold bindL
    rw [bindL_miss (zip_miss (List.nodup_cons.mp hn).1), if_pos hk]; exact if_pos rfl
  | p :: ps, v :: vs, m, i + 1, x, w, hn, h1, h2, hk => by
    rw [List.zip_cons_cons]
    unfold bindL
    exact bindL_hit (List.nodup_cons.mp hn).2 (by simpa using h1) (by simpa using h2) hk
theorem bindC_hit {kindOf : Str → Option NameKind} : ∀ {ps : List Str} {vs : List Value} {m : Str → Option Value} {i : Nat} {x : Str} {v : Value}, ps.Nodup → ps[i]? = some x → vs[i]? = some v → kindOf x ≠ some .local → bindC kindOf (ps.zip vs) m x = some v
  | [], _, _, _, _, _, _, h, _, _ => by simp at h
  | p :: ps, [], _, _, _, _, _, _, h, _ => by simp at h
  | p :: ps, v :: vs, m, 0, x, w, hn, h1, h2, hk => by
    simp at h1 h2; subst h1; subst h2
    rw [List.zip_cons_cons]
    unfold bindC
    rw [bindC_miss (zip_miss (List.nodup_cons.mp hn).1), if_neg hk]; exact if_pos rfl
  | p :: ps, v :: vs, m, i + 1, x, w, hn, h1, h2, hk => by
    rw [List.zip_cons_cons]
    unfold bindC
    exact bindC_hit (List.nodup_cons.mp hn).2 (by simpa using h1) (by simpa using h2) hk
end
end Mine

set_option autoImplicit false
set_option maxRecDepth 100000
namespace Mine
open PySem PyProof.Rows

section
variable {G : Gl}
theorem cellsFrom_keys : ∀ (names : List (Str × NameKind)) (n k : Nat) (acc acc' : List (Str × Addr)), acc.map (·.1) = acc'.map (·.1) → (cellsFrom n names acc).map (·.1) = (cellsFrom k names acc').map (·.1)
  | [], _, _, _, _, h => h
  | (x, kd) :: r, n, k, acc, acc', h => by
    unfold cellsFrom
    split
    · exact cellsFrom_keys r _ _ _ _ (by simp [h])
    · exact cellsFrom_keys r _ _ _ _ h
theorem lookup_of_mem : ∀ {l : List (Str × Addr)} {x : Str} {c : Addr}, (l.map (·.1)).Nodup → (x, c) ∈ l → l.lookup x = some c
  | (y, d) :: r, x, c, hn, hm => by
    rw [List.map_cons, List.nodup_cons] at hn
    rcases List.mem_cons.mp hm with e | hm'
    · cases e; simp
    · have hne : x ≠ y := by rintro rfl; exact hn.1 (List.mem_map_of_mem (f := (·.1)) hm')
      have : (x == y) = false := by simpa using hne
      rw [List.lookup_cons, this]
      exact lookup_of_mem hn.2 hm'

def finQ (Q : V → Hp → Prop) : KS := fun fl _ σ' => match fl with | .ret v => Q v σ' | .next => Q .none σ'

theorem fnAt_code (GO : G.Ok) {f : Value} {F : Fn} {m : Md} {xs : List V} {σ : Hp} {Q : V → Hp → Prop} {X : Value → Hp → Prop} (FA : FnAt G f F) (hlen : xs.length = F.params.length) (hd : 0 < m.d)
    (h : wpSs G ⟨m.d - 1, m.hd⟩ F.body (xs ++ List.replicate F.locs.length .unb) σ (finQ Q) X) {A : Around} {s : Shared} {vs : List Value} (H : HOk G.B σ s.heap) (R : ROk G.B m A σ s.heap) (r : RelL G.B s.heap vs xs) {oL : Option Addr} (hoL : oL.isSome = true) :
    codeAny G.M A (.call f ⟨vs, []⟩) (fun r s' => match r with | .ok (.ret v) => PV G.B σ s Q v s' | .ok _ => False | .error e => EX G.B σ s A oL X e s') s := by
  obtain ⟨⟨a, o, fd, sts, rfl, ho, hdat, hcd, hbody, hclo, hglob, hblt, hbind, hco, hgen, hk, hkinds, hcn, hchk⟩, hnd⟩ := FA
  have hvl : vs.length = F.params.length := by rw [r.length, hlen]
  have hpn : F.params.Nodup := (List.nodup_append.mp hnd).1
  have hdepth := R.depth
  have hkind : ∀ x ∈ F.params.zip vs, fd.scope.names.lookup x.1 = some .local ∨ (fd.scope.names.lookup x.1 = some .cell ∧ ((cellsFrom (s.heap.objs.size + 1) fd.scope.names []).lookup x.1).isSome = true) := fun x hx => by
    have hm : x.1 ∈ F.ns := List.mem_append_left _ (List.of_mem_zip (show (x.1, x.2) ∈ F.params.zip vs from hx)).1
    have := List.all_eq_true.mp hkinds x.1 hm
    rcases Bool.or_eq_true_iff.mp this with q | q
    · exact .inl (eq_of_beq q)
    · exact .inr ⟨eq_of_beq q, PySem.W.cellsFrom_some _ _ _ (.inl (eq_of_beq q))⟩
  have hrel : ∀ i x, F.params[i]? = some x → ∃ v w, xs[i]? = some v ∧ vs[i]? = some w ∧ Rel G.B s.heap w v := fun i x hx => by
    have hi : i < xs.length := by rw [hlen]; exact (List.getElem?_eq_some_iff.mp hx).1
    obtain ⟨w, hw, rw'⟩ := r.get (List.getElem?_eq_getElem hi)
    exact ⟨_, w, List.getElem?_eq_getElem hi, hw, rw'⟩
  refine codeAny_call_cells (by omega) (H.base _ _ ho) hdat (GO.nolimit.keeps H.base) (hcd.keeps H.base) hbody (hbind vs hvl) hclo hkind (fun s₁ x => ?_) hco hgen hk
  obtain ⟨h₁, tk, rfl⟩ := x.toInCall.same
  have hLn : s.heap.get? (callEnvC fd s.heap.objs.size a).locals = none := size_none _
  have hCn : ∀ y c, (y, c) ∈ (callEnvC fd s.heap.objs.size a).cells → s.heap.get? c = none := fun y c hm => by
    have := x.above y c hm
    cases q : s.heap.get? c with
    | none => rfl
    | some o' => exact absurd (Heap.lt_size q) (Nat.not_lt.mpr (Nat.le_of_lt this))
  have S₁ : St G.B σ s σ { s with heap := h₁, toks := tk } := St.grow H x.toInCall.keep
  have hkd : (callEnvC fd s.heap.objs.size a).kindOf = fun y => fd.scope.names.lookup y := rfl
  have hcn' : ((callEnvC fd s.heap.objs.size a).cells.map (·.1)).Nodup := by
    have := cellsFrom_keys fd.scope.names (s.heap.objs.size + 1) 0 [] [] rfl
    show ((cellsFrom (s.heap.objs.size + 1) fd.scope.names []).map (·.1)).Nodup
    rw [this]; exact hcn
  obtain ⟨l, hl, hFr⟩ := R.frames
  have F₁ : FOk G ⟨m.d - 1, m.hd⟩ (A.deeper (callEnvC fd s.heap.objs.size a)) (callEnvC fd s.heap.objs.size a) F.ns (xs ++ List.replicate F.locs.length .unb) σ { s with heap := h₁, toks := tk } := by
    refine ⟨⟨⟨hk, hglob, hblt⟩, ⟨by simp [hlen], H.out hLn, base_out H hLn, _, x.toInCall.ns, fun i y v hy hv => ?_⟩, S₁.ok, ⟨?_, ?_, R.handled, ?_⟩, ⟨_, rfl⟩⟩, x.apart, hnd, ⟨l, by show A.frames.map _ = _; rw [hl]; rfl⟩, fun y c hm => ⟨⟨_, x.cell y c (lookup_of_mem hcn' hm)⟩, H.out (hCn y c hm), base_out H (hCn y c hm)⟩⟩
    · by_cases hi : i < F.params.length
      · rw [List.getElem?_append_left hi] at hy
        rw [List.getElem?_append_left (by rw [hlen]; exact hi)] at hv
        obtain ⟨v', w, hv', hw, rw'⟩ := hrel i y hy
        rw [hv] at hv'; cases hv'
        refine ⟨fun hloc => ?_, fun hc => ?_⟩
        · rw [bindL_hit hpn hy hw hloc]; exact relO_some (S₁.rel H rw')
        · obtain ⟨c, hcc⟩ := Option.isSome_iff_exists.mp (PySem.W.cellsFrom_some (x := y) fd.scope.names (s.heap.objs.size + 1) [] (.inl hc))
          have hcell := x.cell y c hcc
          have hne : (callEnvC fd s.heap.objs.size a).kindOf y ≠ some .local := by rw [hc]; decide
          rw [bindC_hit hpn hy hw hne] at hcell
          exact ⟨c, some w, hcc, hcell, relO_some (S₁.rel H rw'), H.out (hCn y c (mem_of_lookup hcc)), base_out H (hCn y c (mem_of_lookup hcc))⟩
      · rw [List.getElem?_append_right (by rw [hlen]; omega)] at hv
        have hv' : v = .unb := by
          have := List.getElem?_eq_some_iff.mp hv
          obtain ⟨h1, h2⟩ := this
          rw [← h2]; simp
        subst hv'
        refine ⟨fun _ => trivial, fun hc => ?_⟩
        obtain ⟨c, hcc⟩ := Option.isSome_iff_exists.mp (PySem.W.cellsFrom_some (x := y) fd.scope.names (s.heap.objs.size + 1) [] (.inl hc))
        exact ⟨c, _, hcc, x.cell y c hcc, trivial, H.out (hCn y c (mem_of_lookup hcc)), base_out H (hCn y c (mem_of_lookup hcc))⟩
    · show A.depth + 1 + (m.d - 1) ≤ recursionLimit
      omega
    · have := R.units
      show A.units + 3 + 10 * (m.d - 1) + 60 ≤ cLine
      omega
    · refine ⟨callEnvC fd s.heap.objs.size a :: l, by show A.frames.map _ = _; rw [hl]; rfl, fun ev he => ?_⟩
      rcases List.mem_cons.mp he with rfl | he
      · obtain ⟨o', es, ep, e, hd', _⟩ := x.toInCall.ns
        exact ⟨by show fd.scope.kind ≠ .module; rw [hk]; decide, _, o', rfl, base_out H hLn, H.out hLn, e, es, ep, hd'⟩
      · exact hFr.step S₁.step ev he
  have hown : ∀ b, Own (callEnvC fd s.heap.objs.size a) b → s.heap.get? b = none := fun b hb => by
    rcases hb with rfl | ⟨y, hy⟩
    · exact hLn
    · exact hCn y b hy
  refine wpAny_mono (soundSs GO F.body ⟨m.d - 1, m.hd⟩ fd.scope F.ns sts hchk _ _ _ σ _ (finQ Q) X rfl F₁ h) (fun fl s' hp => ?_) fun e s' he => ?_
  · obtain ⟨fl', ρ', σ', rf, F', S', q⟩ := hp
    have S₂ := (S₁.toX.trans S').back hown
    cases fl <;> cases fl' <;> first | exact rf.elim | skip
    · exact ⟨.none, σ', S₂, .none, q⟩
    · exact ⟨_, σ', S₂, rf, q⟩
  · have hfr : (A.deeper (callEnvC fd s.heap.objs.size a)).frames = some (callEnvC fd s.heap.objs.size a :: l) := by show A.frames.map _ = _; rw [hl]; rfl
    unfold leaving
    refine wpAny_bind (wpAny_mono (note_ok (E := fun _ _ => False) hfr rfl he) (fun _ s₂ h₂ => ?_) fun _ _ x => x.elim)
    refine flight_ok h₂ fun s₃ h₃ => ?_
    obtain ⟨a', C, σ', L', l', rfl, hL', hl', hF', S', ⟨g1, g2, g3, c1, c2, oe, vs', g4, g5, g6, g7⟩, q⟩ := h₃
    rw [hfr] at hl'; cases hl'
    obtain ⟨L₀, rfl⟩ := Option.isSome_iff_exists.mp hoL
    have S₂ := (S₁.toX.trans S').back hown
    refine ⟨a', C, σ', L₀, l, rfl, rfl, hl, fun ev he => hF' ev (List.mem_cons_of_mem _ he), S₂, ⟨S₁.new g1, g2, g3, c1, c2, oe, vs', g4, g5, g6, ?_⟩, q⟩
    rcases g7 with ⟨_, g7⟩ | ⟨T, oT, ts, f, t1, t2, t3, t4, t5, t6, tc, t7, t8, t9⟩
    · cases g7
    · cases t9
      exact .inr ⟨T, oT, ts, _, t1, S₁.new t2, t3, t4, t5, t6, tc, t7, t8, .inl rfl⟩
theorem fnAt_call (GO : G.Ok) {f : Value} {F : Fn} {m : Md} {xs : List V} {σ : Hp} {Q : V → Hp → Prop} {X : Value → Hp → Prop} (FA : FnAt G f F) (hlen : xs.length = F.params.length) (hd : 0 < m.d)
    (h : wpSs G ⟨m.d - 1, m.hd⟩ F.body (xs ++ List.replicate F.locs.length .unb) σ (finQ Q) X) : CallOK G m f xs σ Q X :=
  fun _ _ _ H R r _ hoL => wpAny_call (fnAt_code GO FA hlen hd h H R r hoL)
end
end Mine

set_option autoImplicit false
set_option maxRecDepth 100000
namespace Mine
open PySem PySem.W PyProof.Rows

/-! ## the head: functions, globals, the call of the law itself -/
theorem lookup_zip : ∀ {ns : List Str} {vs : List Value}, ns.Nodup → vs.length = ns.length → ns.filterMap (fun n => ((ns.zip vs).lookup n).map (n, ·)) = ns.zip vs := by
  intro ns vs hn hl
  have key : ∀ (ps : List (Str × Value)) (l : List Str) (w : List Value), l.Nodup → w.length = l.length → (∀ n ∈ l, ps.lookup n = none) → l.filterMap (fun n => ((ps ++ l.zip w).lookup n).map (n, ·)) = l.zip w := by
    intro ps l
    induction l generalizing ps with
    | nil => intro w _ _ _; simp
    | cons a l ih =>
      intro w hn hw hp
      cases w with
      | nil => simp at hw
      | cons v w =>
        have ha : ps.lookup a = none := hp a (List.mem_cons_self ..)
        have e1 : (ps ++ (a :: l).zip (v :: w)).lookup a = some v := by
          rw [List.zip_cons_cons, List.lookup_append, ha]; simp
        rw [List.filterMap_cons, e1]
        have e2 : ps ++ (a :: l).zip (v :: w) = (ps ++ [(a, v)]) ++ l.zip w := by simp
        simp only [Option.map_some]
        rw [e2, ih (ps ++ [(a, v)]) w (List.nodup_cons.mp hn).2 (by simpa using hw) (fun n hm => ?_)]
        · simp
        · rw [List.lookup_append, hp n (List.mem_cons_of_mem _ hm)]
          have hne : n ≠ a := by rintro rfl; exact (List.nodup_cons.mp hn).1 hm
          have : (n == a) = false := by simpa using hne
          simp [List.lookup_cons, this]
  simpa using key [] ns vs hn hl (by simp)
theorem lookup_zip_none : ∀ {ns : List Str} {vs : List Value} {n : Str}, vs.length = ns.length → n ∈ ns → ((ns.zip vs).lookup n).isNone = false
  | a :: l, v :: w, n, hl, hm => by
    rw [List.zip_cons_cons, List.lookup_cons]
    by_cases e : n = a
    · subst e; simp
    · have : (n == a) = false := by simpa using e
      rw [this]
      exact lookup_zip_none (by simpa using hl) (by rcases List.mem_cons.mp hm with h | h; exact absurd h e; exact h)
  | _ :: _, [], _, hl, _ => by simp at hl
theorem bind_simple {fd : FuncData} {ns : List Str} {vs : List Value} (h1 : fd.params.posonlyargs = []) (h2 : fd.params.args.map (·.arg) = ns) (h3 : fd.params.kwonlyargs = []) (h4 : fd.params.vararg = none) (h5 : fd.params.kwarg = none)
    (h6 : fd.defaults = .none) (hn : ns.Nodup) (hl : vs.length = ns.length) : bindArgs fd ⟨vs, []⟩ = pure (ns.zip vs) := by
  unfold bindArgs
  have hm : (ns.filter fun n => ((ns.zip vs).lookup n).isNone) = [] := by
    rw [List.filter_eq_nil_iff]; intro n hn'; rw [lookup_zip_none hl hn']; decide
  have hs : seqItems? fd.defaults = pure none := by rw [h6]; rfl
  simp only [h1, h2, h3, h4, h5, hs, List.map_nil, List.nil_append, List.forIn_nil, pure_bind, Option.getD_none, List.append_nil, hl, Nat.lt_irrefl, gt_iff_lt, decide_false, Bool.false_and, Bool.false_eq_true, if_false]
  simp [hm, lookup_zip hn hl]

def fnChk (a : Arguments) (sc : Scope) (body : List Stmt) (F : Fn) : Bool :=
  a.posonlyargs.isEmpty && (a.args.map (·.arg) == F.params) && a.kwonlyargs.isEmpty && a.vararg.isNone && a.kwarg.isNone && !sc.isCoroutine && !sc.isGenerator && sc.kind == .function &&
  (F.ns.all fun x => sc.names.lookup x == some .local || sc.names.lookup x == some .cell) && decide (((cellsFrom 0 sc.names []).map (·.1)).Nodup) && chkSs sc F.ns F.body body && decide F.ns.Nodup

theorem fnAt_of {G : Gl} {f : Value} {F : Fn} {a : Addr} {o : Obj} {fd : FuncData} {sts : List Stmt} (hf : f = .ref a) (ho : G.B.get? a = some o) (hd : o.data = .func fd) (hc : G.B.CodeRec fd.code fd.qualname) (hb : fd.body = .stmts sts)
    (hcl : fd.closure = []) (hg : fd.globals = mainGlobals) (hbl : fd.builtins = builtinsNs) (hdf : fd.defaults = .none) (hk : fnChk fd.params fd.scope sts F = true) : FnAt G f F := by
  unfold fnChk at hk
  simp only [Bool.and_eq_true, Bool.not_eq_true', List.isEmpty_iff, Option.isNone_iff_eq_none, beq_iff_eq, decide_eq_true_eq] at hk
  obtain ⟨⟨⟨⟨⟨⟨⟨⟨⟨⟨⟨k1, k2⟩, k3⟩, k4⟩, k5⟩, k6⟩, k7⟩, k8⟩, k9⟩, k10⟩, k11⟩, k12⟩ := hk
  exact ⟨⟨a, o, fd, sts, hf, ho, hd, hc, hb, hcl, hg, hbl, fun vs hl => bind_simple k1 k2 k3 k4 k5 hdf (List.nodup_append.mp k12).1 hl, k6, k7, k8, k9, k10, k11⟩, k12⟩

def okFns (p : Program) (fns : List (Str × Fn)) : Bool :=
  fns.all fun x => match (recsOf p).find? (fun d => d.name == x.1) with
    | some d => fnChk d.params d.scope d.body x.2
    | none => false
section
variable {p : Program} {loose : List Str} {mean : ExcName → Option Value} {mg mb : Str → Option Value} {h : Heap} {prog : Program} {w : World} {gl : Str → V}
theorem top_fns (T : Top p loose mean mg mb h) {fns : List (Str × Fn)} (hok : okFns p fns = true) (i : Nat) {x : Str} {F : Fn} (hm : fns[i]? = some (x, F)) :
    IsFn ⟨prog, w, h, mg, mb, gl⟩ x ∧ FnAt ⟨prog, w, h, mg, mb, gl⟩ (.ref (Gl.fn ⟨prog, w, h, mg, mb, gl⟩ x)) F := by
  have hm' : (x, F) ∈ fns := List.mem_of_getElem? hm
  have := List.all_eq_true.mp hok _ hm'
  split at this
  · rename_i d hd
    have hn : d.name = x := eq_of_beq (List.find?_some (p := fun d : DefRec => d.name == x) hd)
    obtain ⟨a, o, pm, code, doc, h1, h2, h3, h4⟩ := T.fn d (List.mem_of_find?_eq_some hd)
    rw [hn] at h1
    have e : Gl.fn ⟨prog, w, h, mg, mb, gl⟩ x = a := by unfold Gl.fn; simp only [h1]
    rw [IsFn, e]
    exact ⟨⟨o, _, h1, h2, h3⟩, fnAt_of rfl h2 h3 h4 rfl rfl rfl rfl rfl this⟩
  · cases this
def freeChk (p : Program) (loose : List Str) (x : Str) : Bool :=
  !(startupNames.contains x) && !(loose.contains x) && !(((recsOf p).map (·.name)).contains x) && !(((litsOf p).map (·.1)).contains x) && !(((clssOf p loose).map (·.name)).contains x) && !(x == ("__name__" : Str))
theorem top_builtin (T : Top p loose mean mg mb h) {x : Str} (hk : freeChk p loose x = true) : mg x = none ∧ mb x = bootBuiltins x := by
  unfold freeChk at hk
  simp only [Bool.and_eq_true, Bool.not_eq_true', beq_eq_false_iff_ne, ne_eq] at hk
  obtain ⟨⟨⟨⟨⟨k1, k2⟩, k3⟩, k4⟩, k5⟩, k6⟩ := hk
  have f : ∀ {l : List Str}, l.contains x = false → x ∉ l := fun hc hm => by rw [List.contains_iff_mem.mpr hm] at hc; cases hc
  exact ⟨T.free x (f k1) (f k2) (f k3) (f k4) (f k5), T.builtins x k6⟩
def Blt.list : List Blt := [.len, .isinst, .range1, .range2, .min2, .max1, .int1, .tuple1, .list1, .dict1, .set1, .sorted1, .ord, .all, .str1, .enum]
theorem Blt.mem (b : Blt) : b ∈ Blt.list := by cases b <;> simp [Blt.list]
theorem blt_boot (b : Blt) : bootBuiltins b.nm = some b.val := by cases b <;> decide +kernel
theorem top_gl (T : Top p loose mean mg mb h) (hb : (Blt.list.all fun b => freeChk p loose b.nm) = true)
    (hgl : ∀ x, gl x ≠ .unb → ∃ v, (mg x = some v ∨ (mg x = none ∧ mb x = some v)) ∧ ∀ h', Rel h h' v (gl x)) : Gl.Ok ⟨prog, w, h, mg, mb, gl⟩ :=
  ⟨T.g, T.b, T.nolimit, hgl, fun b => let ⟨x, y⟩ := top_builtin T (List.all_eq_true.mp hb b b.mem); ⟨x, y.trans (blt_boot b)⟩⟩
end
def h0 : Hp := fun _ => none
theorem HOk.init (B : Heap) : HOk B h0 B := ⟨fun _ _ e => (by cases e), fun _ _ e => (by cases e), fun _ _ x => x⟩
theorem ROk.init (B : Heap) : ROk B ⟨680, true⟩ callerA h0 B := ⟨by show 1 + claimMargin + 680 ≤ 1000; decide, by decide, fun _ => rfl, [], rfl, fun _ h => by cases h⟩
theorem law_post (l : OpenLaw) (args : List WData) : l.row.claim.post args (.bool true) args = true := by
  show (WShape.has [] (.bool true) .bool && WTm.holds [] (.eq .res (.lit (.bool true))) { args := args, res := some (.bool true), after := args }) = true
  simp [WShape.has, WTm.holds, WTm.value, same, WShape.arms]
theorem head_ok {G : Gl} (GO : G.Ok) {f : Value} {F : Fn} (FA : FnAt G f F) {s : Shared} (hs : s.heap = G.B) (hg : s.gens = #[]) {a : Addr} {vs : List Value} {zs : List Int} (hL : s.heap.IsList a vs.toArray) (hI : IntsAre vs zs)
    {c : ClaimW} {cl : Str → Option Addr} {mean : ExcName → Option Value} {args : List WData} (hn : ∀ cls, c.raises args cls = false) (hp : c.post args (.bool true) args = true) (h1 : F.params.length = 1)
    (h : wpSs G ⟨679, true⟩ F.body (.lst (zs.map .int) :: List.replicate F.locs.length .unb) h0 (finQ fun x _ => x = .bool true) (fun _ _ => False)) :
    codeAny G.M callerA (.call f ⟨[.ref a], []⟩) (GoodWG c cl mean args s) s := by
  have hr : ∀ {vs : List Value} {zs : List Int}, IntsAre vs zs → RelL G.B s.heap vs (zs.map .int) := by
    intro vs zs hI
    induction hI with
    | nil => exact .nil
    | cons _ _ _ ih => exact .cons (.int _ _) ih
  have := fnAt_code GO FA (m := ⟨680, true⟩) (xs := [.lst (zs.map .int)]) (σ := h0) (Q := fun x _ => x = .bool true) (X := fun _ _ => False) (by rw [h1]; rfl) (by decide) h (A := callerA) (s := s) (vs := [.ref a])
    (hs ▸ HOk.init _) (hs ▸ ROk.init _) (.cons (.lst (hs ▸ hL) (hr hI)) .nil) (oL := some 0) rfl
  refine codeAny_mono this fun r s' hr => ?_
  match r, hr with
  | .ok (.ret v), hr =>
    obtain ⟨x, σ', S, rv, rfl⟩ := hr
    cases rv
    refine GoodW.toG ⟨.inl ⟨_, _, [], rfl, hn, .bool true, hp, unshared_nil⟩, fun b o e => ?_, ?_, ?_⟩
    · exact S.ok.base b o (hs ▸ e)
    · rw [S.rest]
    · rw [S.rest]; exact hg
  | .error e, hr => obtain ⟨_, _, _, _, _, _, _, _, _, _, _, q⟩ := hr; exact q.elim
end Mine

set_option autoImplicit false
set_option maxRecDepth 100000
namespace Mine
open PySem PySem.W PyProof.Rows

/-! ## working rules -/
def Ext (σ σ' : Hp) : Prop := ∀ a c, σ a = some c → σ' a = some c
theorem Ext.refl (σ : Hp) : Ext σ σ := fun _ _ h => h
theorem Ext.trans {a b c : Hp} (x : Ext a b) (y : Ext b c) : Ext a c := fun p q h => y p q (x p q h)
theorem Ext.set {σ : Hp} {a : Addr} {c : Cell} (h : σ a = none) : Ext σ (σ.set a c) := fun p q e => by
  rw [Hp.set_ne]
  · exact e
  · rintro rfl; rw [h] at e; cases e

section
variable {G : Gl} {m : Md} {ρ : List V} {σ : Hp} {K : KS} {X : Value → Hp → Prop} {cs : List CS} {e : CE}
theorem st_asg {i : Nat} (h : wpE G m e ρ σ (fun x σ₁ => wpSs G m cs (ρ.set i x) σ₁ K X) X) : wpSs G m (.asg i e :: cs) ρ σ K X := h
theorem st_expr (h : wpE G m e ρ σ (fun _ σ₁ => wpSs G m cs ρ σ₁ K X) X) : wpSs G m (.expr e :: cs) ρ σ K X := h
theorem st_ret (h : wpE G m e ρ σ (fun x σ₁ => K (.ret x) ρ σ₁) X) : wpSs G m (.ret e :: cs) ρ σ K X := h
theorem st_nil (h : K .next ρ σ) : wpSs G m [] ρ σ K X := h
/-- a branch one arm of which is a return -/
theorem st_if {r : CE} (h : wpE G m e ρ σ (fun x σ₁ => truthP x fun t => if t then wpE G m r ρ σ₁ (fun x σ₁ => K (.ret x) ρ σ₁) X else wpSs G m cs ρ σ₁ K X) X) : wpSs G m (.ite e [.ret r] [] :: cs) ρ σ K X := h
theorem st_if1 {a : CS} (h : wpE G m e ρ σ (fun x σ₁ => truthP x fun t => if t then wpSs G m (a :: cs) ρ σ₁ K X else wpSs G m cs ρ σ₁ K X) X) : wpSs G m (.ite e [a] [] :: cs) ρ σ K X := h
theorem st_whl {b : List CS} (I : Nat → List V → Hp → Prop) (h0 : ∃ n, I n ρ σ) (h : ∀ n ρ σ, I n ρ σ → wpE G m e ρ σ (fun x σ₁ => truthP x fun t => if t then wpSs G m b ρ σ₁ (fun f ρ σ => match f with | .next => ∃ k, k < n ∧ I k ρ σ | .ret r => K (.ret r) ρ σ) X else wpSs G m cs ρ σ₁ K X) X) :
    wpSs G m (.whl e b :: cs) ρ σ K X := ⟨I, h0, h⟩
theorem st_for1 {i : Nat} {b : List CS} (hd : m.hd = true) (h : wpE G m e ρ σ (fun v σ₁ => ∃ xs, itemsOf σ₁ v = some xs ∧ forP xs v (fun ρ x => some (ρ.set i x)) (fun ρ σ K => wpSs G m b ρ σ K X) ρ σ₁ (fun f ρ σ => match f with | .next => wpSs G m cs ρ σ K X | .ret r => K (.ret r) ρ σ)) X) :
    wpSs G m (.for1 i e b :: cs) ρ σ K X := ⟨hd, h⟩
theorem for_intro {xs : List V} {v : V} {upd : List V → V → Option (List V)} {body : List V → Hp → KS → Prop} (I : Nat → List V → Hp → Prop) (h0 : I 0 ρ σ)
    (hs : ∀ i ρ σ x, xs[i]? = some x → I i ρ σ → itemsOf σ v = some xs ∧ ∃ ρ', upd ρ x = some ρ' ∧ body ρ' σ fun f ρ σ => match f with | .next => I (i + 1) ρ σ | .ret r => K (.ret r) ρ σ)
    (he : ∀ ρ σ, I xs.length ρ σ → itemsOf σ v = some xs ∧ K .next ρ σ) : forP xs v upd body ρ σ K := ⟨I, h0, hs, he⟩
theorem rng_len (n : Nat) : ((List.range ((n : Int) - 0).toNat).map fun (i : Nat) => V.int (0 + (i : Int))).length = n := by simp
theorem rng_get {n i : Nat} {x : V} (h : ((List.range ((n : Int) - 0).toNat).map fun (i : Nat) => V.int (0 + (i : Int)))[i]? = some x) : i < n ∧ x = .int i := by
  have hi : i < n := by have := (List.getElem?_eq_some_iff.mp h).1; simpa using this
  simp [List.getElem?_range hi] at h
  exact ⟨hi, h.symm⟩
theorem i_none_str  {σ : Hp} : instB σ .none (.prim (.type "str")) = some false := rfl
theorem i_none_int  {σ : Hp} : instB σ .none (.prim (.type "int")) = some false := rfl
theorem i_none_bool  {σ : Hp} : instB σ .none (.prim (.type "bool")) = some false := rfl
theorem i_none_tuple  {σ : Hp} : instB σ .none (.prim (.type "tuple")) = some false := rfl
theorem i_none_list  {σ : Hp} : instB σ .none (.prim (.type "list")) = some false := rfl
theorem i_bool_str {b : Bool} {σ : Hp} : instB σ (.bool b) (.prim (.type "str")) = some false := rfl
theorem i_bool_int {b : Bool} {σ : Hp} : instB σ (.bool b) (.prim (.type "int")) = some true := rfl
theorem i_bool_bool {b : Bool} {σ : Hp} : instB σ (.bool b) (.prim (.type "bool")) = some true := rfl
theorem i_bool_tuple {b : Bool} {σ : Hp} : instB σ (.bool b) (.prim (.type "tuple")) = some false := rfl
theorem i_bool_list {b : Bool} {σ : Hp} : instB σ (.bool b) (.prim (.type "list")) = some false := rfl
theorem i_int_str {i : Int} {σ : Hp} : instB σ (.int i) (.prim (.type "str")) = some false := rfl
theorem i_int_int {i : Int} {σ : Hp} : instB σ (.int i) (.prim (.type "int")) = some true := rfl
theorem i_int_bool {i : Int} {σ : Hp} : instB σ (.int i) (.prim (.type "bool")) = some false := rfl
theorem i_int_tuple {i : Int} {σ : Hp} : instB σ (.int i) (.prim (.type "tuple")) = some false := rfl
theorem i_int_list {i : Int} {σ : Hp} : instB σ (.int i) (.prim (.type "list")) = some false := rfl
theorem i_str_str {s : List Nat} {σ : Hp} : instB σ (.str s) (.prim (.type "str")) = some true := rfl
theorem i_str_int {s : List Nat} {σ : Hp} : instB σ (.str s) (.prim (.type "int")) = some false := rfl
theorem i_str_bool {s : List Nat} {σ : Hp} : instB σ (.str s) (.prim (.type "bool")) = some false := rfl
theorem i_str_tuple {s : List Nat} {σ : Hp} : instB σ (.str s) (.prim (.type "tuple")) = some false := rfl
theorem i_str_list {s : List Nat} {σ : Hp} : instB σ (.str s) (.prim (.type "list")) = some false := rfl
theorem i_tup_str {xs : List V} {σ : Hp} : instB σ (.tup xs) (.prim (.type "str")) = some false := rfl
theorem i_tup_int {xs : List V} {σ : Hp} : instB σ (.tup xs) (.prim (.type "int")) = some false := rfl
theorem i_tup_bool {xs : List V} {σ : Hp} : instB σ (.tup xs) (.prim (.type "bool")) = some false := rfl
theorem i_tup_tuple {xs : List V} {σ : Hp} : instB σ (.tup xs) (.prim (.type "tuple")) = some true := rfl
theorem i_tup_list {xs : List V} {σ : Hp} : instB σ (.tup xs) (.prim (.type "list")) = some false := rfl
theorem i_ref_str {a : Addr} {xs : List V} {σ : Hp} (h : σ a = some (.list xs)) : instB σ (.ref a) (.prim (.type "str")) = some false := by unfold instB kindV; simp only [h]; rfl
theorem i_ref_int {a : Addr} {xs : List V} {σ : Hp} (h : σ a = some (.list xs)) : instB σ (.ref a) (.prim (.type "int")) = some false := by unfold instB kindV; simp only [h]; rfl
theorem i_ref_bool {a : Addr} {xs : List V} {σ : Hp} (h : σ a = some (.list xs)) : instB σ (.ref a) (.prim (.type "bool")) = some false := by unfold instB kindV; simp only [h]; rfl
theorem i_ref_tuple {a : Addr} {xs : List V} {σ : Hp} (h : σ a = some (.list xs)) : instB σ (.ref a) (.prim (.type "tuple")) = some false := by unfold instB kindV; simp only [h]; rfl
theorem i_ref_list {a : Addr} {xs : List V} {σ : Hp} (h : σ a = some (.list xs)) : instB σ (.ref a) (.prim (.type "list")) = some true := by unfold instB kindV; simp only [h]; rfl
theorem call_of (n : Nat) (GO : G.Ok) {f : Str} {F : Fn} {xs : List V} {Q : V → Hp → Prop} (FA : FnAt G (.ref (G.fn f)) F) (hn : F.locs.length = n) (hlen : xs.length = F.params.length) (hd : 0 < m.d)
    (h : wpSs G ⟨m.d - 1, m.hd⟩ F.body (xs ++ List.replicate n .unb) σ (finQ Q) X) : CallF G m f xs σ Q X := fnAt_call GO FA hlen hd (by rw [hn]; exact h)
theorem idx_lit {xs : List V} {i : Int} {Q : V → Hp → Prop} {a : Addr} (h0 : 0 ≤ i) (h1 : i < xs.length) (h2 : xs.length < 2 ^ 62) (hs : σ a = some (.list xs)) (h : Q (xs.getD i.toNat .unb) σ) : idxP (.ref a) (.int i) σ Q := by
  refine ⟨xs, i.toNat, xs.getD i.toNat .unb, hs, ?_, by omega, by omega, ?_, h⟩
  · unfold seqIndex?
    simp only [if_neg (Int.not_lt.mpr h0), Bool.and_eq_true, decide_eq_true_eq]
    rw [if_pos ⟨h0, by omega⟩]
  · have : i.toNat < xs.length := by omega
    rw [List.getD_eq_getElem?_getD, List.getElem?_eq_getElem this]; rfl
end

section
variable {σ : Hp} {Q : V → Hp → Prop} {R : Bool → Prop} {i j : Int} {s t : List Nat} {xs ys : List V} {a : Addr} {x y : V} {b c : Bool}
theorem r_add : binP .Add (.int i) (.int j) σ Q = Q (.int (i + j)) σ := rfl
theorem r_sub : binP .Sub (.int i) (.int j) σ Q = Q (.int (i - j)) σ := rfl
theorem r_mul : binP .Mult (.int i) (.int j) σ Q = (IntMulOk i j ∧ Q (.int (i * j)) σ) := rfl
theorem r_mod : binP .Mod (.int i) (.int j) σ Q = (0 < j ∧ Q (.int (i % j)) σ) := rfl
theorem r_fdiv : binP .FloorDiv (.int i) (.int j) σ Q = (0 < j ∧ j < 1073741824 ∧ Q (.int (i / j)) σ) := rfl
theorem r_adds : binP .Add (.str s) (.str t) σ Q = (s.length + t.length ≤ sizeLine ∧ Q (.str (s ++ t)) σ) := rfl
theorem r_eqi : cmpP .Eq (.int i) (.int j) σ R = R (i == j) := rfl
theorem r_eqs : cmpP .Eq (.str s) (.str t) σ R = R (s == t) := rfl
theorem r_nei : cmpP .NotEq (.int i) (.int j) σ R = R (!(i == j)) := rfl
theorem r_nes : cmpP .NotEq (.str s) (.str t) σ R = R (!(s == t)) := rfl
theorem r_lt : cmpP .Lt (.int i) (.int j) σ R = R (decide (i < j)) := rfl
theorem r_le : cmpP .LtE (.int i) (.int j) σ R = R (decide (i ≤ j)) := rfl
theorem r_gt : cmpP .Gt (.int i) (.int j) σ R = R (decide (j < i)) := rfl
theorem r_ge : cmpP .GtE (.int i) (.int j) σ R = R (decide (j ≤ i)) := rfl
theorem r_is : cmpP .Is x .none σ R = ∃ b, isNone x = some b ∧ R b := rfl
theorem r_isnot : cmpP .IsNot x .none σ R = ∃ b, isNone x = some b ∧ R (!b) := rfl
theorem r_isb : cmpP .Is x (.bool c) σ R = ∃ b, isBool x c = some b ∧ R b := rfl
theorem r_truth : truthP (.bool b) R = R b := rfl
theorem r_idxs : idxP (.str s) (.int i) σ Q = (0 ≤ i ∧ i < s.length ∧ s.length < 2 ^ 62 ∧ Q (.str [s.getD i.toNat 0]) σ) := rfl
theorem r_idxl : idxP (.lst xs) (.int i) σ Q = ∃ v, 0 ≤ i ∧ i < 2 ^ 62 ∧ xs[i.toNat]? = some v ∧ Q v σ := rfl
theorem r_slc {lo hi : Option Int} : slcP (.str s) lo hi σ Q = (s.length ≤ sizeLine ∧ Q (.str (slice s lo hi)) σ) := rfl
theorem r_lens : bltP .len [.str s] σ Q = (s.length < 2 ^ 62 ∧ Q (.int s.length) σ) := rfl
theorem r_lenr : bltP .len [.ref a] σ Q = ∃ ys, σ a = some (.list ys) ∧ ys.length < 2 ^ 62 ∧ Q (.int ys.length) σ := rfl
theorem r_lenl : bltP .len [.lst ys] σ Q = (ys.length < 2 ^ 62 ∧ Q (.int ys.length) σ) := rfl
theorem r_inst : bltP .isinst [x, y] σ Q = ∃ b, instB σ x y = some b ∧ Q (.bool b) σ := rfl
theorem r_range : bltP .range1 [.int i] σ Q = (-(2 ^ 62) ≤ i ∧ i < 2 ^ 62 ∧ Q (.rng 0 i) σ) := rfl
theorem r_range2 : bltP .range2 [.int i, .int j] σ Q = (-(2 ^ 62) ≤ i ∧ i < 2 ^ 62 ∧ -(2 ^ 62) ≤ j ∧ j < 2 ^ 62 ∧ Q (.rng i j) σ) := rfl
theorem r_lent : bltP .len [.tup ys] σ Q = (ys.length < 2 ^ 62 ∧ Q (.int ys.length) σ) := rfl
theorem r_tuple1 : bltP .tuple1 [.ref a] σ Q = ∃ ys, σ a = some (.list ys) ∧ ys.length ≤ sizeLine ∧ Q (.tup ys) σ := rfl
theorem r_int1 : bltP .int1 [.bool b] σ Q = Q (.int (if b then 1 else 0)) σ := rfl
theorem r_neg : negP (.int i) σ Q = Q (.int (-i)) σ := rfl
theorem r_idxt : idxP (.tup xs) (.int i) σ Q = ∃ j v, seqIndex? i xs.length = some j ∧ -(2 ^ 62) ≤ i ∧ i < 2 ^ 62 ∧ xs[j]? = some v ∧ Q v σ := rfl
theorem r_starts : mthP .startswith (.str s) [.str t] σ Q = Q (.bool (t.isPrefixOf s)) σ := rfl
theorem r_starts' : mthTy .startswith (.str s) σ = True := rfl
theorem r_append : mthP .append (.ref a) [x] σ Q = ∃ xs, σ a = some (.list xs) ∧ xs.length ≤ sizeLine ∧ Q .none (σ.set a (.list (xs ++ [x]))) := rfl
theorem r_append' : mthTy .append (.ref a) σ = ∃ xs, σ a = some (.list xs) := rfl
theorem n_none : isNone .none = some true := rfl
theorem n_int : isNone (.int i) = some false := rfl
theorem n_str : isNone (.str s) = some false := rfl
theorem n_tup : isNone (.tup xs) = some false := rfl
theorem n_ref : isNone (.ref a) = some false := rfl
theorem n_bool : isNone (.bool b) = some false := rfl
end
theorem seqIndex_nat {k n : Nat} (h : k < n) : seqIndex? (k : Int) n = some k := by
  have h0 : (0 : Int) ≤ k := by omega
  unfold seqIndex?
  simp only [if_neg (Int.not_lt.mpr h0), Bool.and_eq_true, decide_eq_true_eq]
  rw [if_pos ⟨h0, by omega⟩]; rfl
theorem idx_tup {σ : Hp} {Q : V → Hp → Prop} {xs : List V} {x : V} {k : Nat} (h : xs[k]? = some x) (hl : xs.length < 2 ^ 62) (q : Q x σ) : idxP (.tup xs) (.int k) σ Q := by
  have hk := (List.getElem?_eq_some_iff.mp h).1
  exact ⟨k, x, seqIndex_nat hk, by omega, by omega, h, q⟩
theorem idx_ref {σ : Hp} {Q : V → Hp → Prop} {xs : List V} {x : V} {k : Nat} {a : Addr} (hs : σ a = some (.list xs)) (h : xs[k]? = some x) (hl : xs.length < 2 ^ 62) (q : Q x σ) : idxP (.ref a) (.int k) σ Q := by
  have hk := (List.getElem?_eq_some_iff.mp h).1
  exact ⟨xs, k, x, hs, seqIndex_nat hk, by omega, by omega, h, q⟩
theorem Ext.isNone {σ σ' : Hp} {a : Addr} (h : Ext σ σ') (ha : σ' a = none) : σ a = none := by
  cases e : σ a with
  | none => rfl
  | some c => rw [h a c e] at ha; cases ha
theorem Ext.set_new {σ σ' : Hp} {a : Addr} {c : Cell} (h : Ext σ σ') (ha : σ a = none) : Ext σ (σ'.set a c) := fun p q e => by
  rw [Hp.set_ne]
  · exact h p q e
  · rintro rfl; rw [ha] at e; cases e
theorem slice_hi {α : Type} (xs : List α) {i : Int} (h : 0 ≤ i) : slice xs none (some i) = xs.take i.toNat := by
  unfold slice clampI
  simp only [if_neg (Int.not_lt.mpr h), List.drop_zero]
  rw [Nat.min_def]; split
  · rfl
  · rw [List.take_of_length_le (Nat.le_refl _), List.take_of_length_le (by omega)]
theorem slice_lo {α : Type} (xs : List α) {i : Int} (h : 0 ≤ i) : slice xs (some i) none = xs.drop i.toNat := by
  unfold slice clampI
  simp only [if_neg (Int.not_lt.mpr h), List.take_length]
  rw [Nat.min_def]; split
  · rfl
  · rw [List.drop_of_length_le (Nat.le_refl _), List.drop_of_length_le (by omega)]

/-! ## plain: beginnings -/
def lcp : List Nat → List Nat → Nat
  | a :: as, b :: bs => if a = b then lcp as bs + 1 else 0
  | _, _ => 0
theorem lcp_le : ∀ (a b : List Nat), lcp a b ≤ a.length ∧ lcp a b ≤ b.length
  | a :: as, b :: bs => by
    unfold lcp; have := lcp_le as bs; split <;> simp <;> omega
  | [], _ => by simp [lcp]
  | _ :: _, [] => by simp [lcp]
theorem lcp_comm : ∀ (a b : List Nat), lcp a b = lcp b a
  | a :: as, b :: bs => by
    unfold lcp
    by_cases h : a = b
    · rw [if_pos h, if_pos h.symm, lcp_comm as bs]
    · rw [if_neg h, if_neg (Ne.symm h)]
  | [], [] => rfl
  | [], _ :: _ => rfl
  | _ :: _, [] => rfl
theorem lcp_take : ∀ (a b : List Nat), a.take (lcp a b) = b.take (lcp a b)
  | a :: as, b :: bs => by
    unfold lcp; split
    · rename_i h; subst h; simp [lcp_take as bs]
    · simp
  | [], _ => by simp [lcp]
  | _ :: _, [] => by simp [lcp]
theorem lcp_step : ∀ (a b : List Nat) (k : Nat), k ≤ lcp a b → ((k < a.length ∧ k < b.length ∧ a.getD k 0 = b.getD k 0) ↔ k < lcp a b)
  | a :: as, b :: bs, 0, _ => by
    unfold lcp; by_cases h : a = b <;> simp [h]
  | a :: as, b :: bs, k + 1, h => by
    unfold lcp at h ⊢
    split at h
    · rename_i e
      rw [if_pos e]
      have := lcp_step as bs k (by omega)
      simp only [List.length_cons, List.getD_cons_succ]
      omega
    · omega
  | [], _, k, h => by simp [lcp]
  | _ :: _, [], k, h => by simp [lcp]
theorem lcp_prefix : ∀ (a b : List Nat), b.isPrefixOf a = true ↔ lcp a b = b.length
  | a :: as, b :: bs => by
    unfold lcp
    simp only [List.isPrefixOf, Bool.and_eq_true, beq_iff_eq, List.length_cons]
    have := lcp_prefix as bs
    split
    · rename_i e; rw [this]; simp [e]
    · rename_i e; constructor
      · rintro ⟨rfl, _⟩; exact absurd rfl e
      · intro h; omega
  | _, [] => by simp [lcp]
  | [], _ :: _ => by simp [lcp, List.isPrefixOf]
theorem prefix_take (a : List Nat) (n : Nat) : (a.take n).isPrefixOf a = true := by
  rw [List.isPrefixOf_iff_prefix]; exact List.take_prefix _ _
end Mine

set_option autoImplicit false
set_option linter.unusedSimpArgs false
set_option maxRecDepth 100000
namespace Mine
open PySem PySem.W PyProof.Rows

def F_law_cell_at : Fn := ⟨["_law_script", "_law_k"], [], [
  .ite (.cmp (.var 1) .Lt (.callB .len [(.var 0)])) [
    .ret (.idx (.var 0) (.var 1))] [],
  .ret (.cInt 0)]⟩
def F_law_whole : Fn := ⟨["_law_told"], [], [
  .ret (.bop true [(.callB .isinst [(.var 0), (.glob "int")]), (.nt (.callB .isinst [(.var 0), (.glob "bool")]))])]⟩
def F_law_sign_by : Fn := ⟨["_law_cell"], ["_law_some"], [
  .asg 1 (.cStr (lit " !\"#$&'()*+,-./0123456789:;<=>?@ABCDEFGHIJKLMNOPQRSTUVWXYZ[\\]^_`")),
  .asg 1 (.bin .Add (.var 1) (.cStr (lit "abcdefghijklmnopqrstuvwxyz{|}~"))),
  .ret (.idx (.var 1) (.bin .Mod (.var 0) (.cInt 94)))]⟩
def F_law_word_by : Fn := ⟨["_law_cell", "_law_size"], ["_law_made", "_law_number", "_law_k"], [
  .asg 2 (.cStr (lit "")),
  .asg 3 (.var 0),
  .for1 4 (.callB .range1 [(.var 1)]) [
    .asg 3 (.bin .Mod (.bin .Add (.bin .Mult (.var 3) (.cInt 48271)) (.cInt 11)) (.cInt 2147483647)),
    .asg 2 (.bin .Add (.var 2) (.callF "_law_sign_by" [(.bin .Add (.cInt 65) (.bin .Mod (.bin .FloorDiv (.var 3) (.cInt 7)) (.idx (.list [(.cInt 2), (.cInt 94)]) (.bin .Mod (.var 0) (.cInt 2)))))]))],
  .ret (.var 2)]⟩
def F_law_number_by : Fn := ⟨["_law_cell"], ["_law_size", "_law_number", "_law_mixed", "_law_k"], [
  .ite (.cmp (.bin .Mod (.var 0) (.cInt 5)) .Gt (.cInt 1)) [
    .ret (.bin .Sub (.bin .Mod (.bin .FloorDiv (.var 0) (.cInt 5)) (.cInt 39)) (.cInt 19))] [],
  .asg 1 (.idx (.list [(.cInt 60), (.bin .Add (.cInt 1) (.bin .Mod (.bin .FloorDiv (.var 0) (.cInt 10)) (.cInt 60)))]) (.bin .Mod (.var 0) (.cInt 5))),
  .asg 2 (.cInt 0),
  .asg 3 (.var 0),
  .for1 4 (.callB .range1 [(.var 1)]) [
    .asg 3 (.bin .Mod (.bin .Add (.bin .Mult (.var 3) (.cInt 48271)) (.cInt 11)) (.cInt 2147483647)),
    .asg 2 (.bin .Add (.bin .Mult (.var 2) (.cInt 10)) (.bin .Mod (.bin .FloorDiv (.var 3) (.cInt 7)) (.cInt 10)))],
  .ret (.bin .Mult (.idx (.list [(.cInt 1), (.usub (.cInt 1))]) (.bin .Mod (.bin .FloorDiv (.var 0) (.cInt 5)) (.cInt 2))) (.var 2))]⟩
def F_law_alike : Fn := ⟨["_law_told", "_law_due"], ["_law_k"], [
  .ite (.cmp (.var 1) .Is .cNone) [
    .ret (.cmp (.var 0) .Is .cNone)] [],
  .ite (.callB .isinst [(.var 1), (.glob "str")]) [
    .ret (.bop true [(.callB .isinst [(.var 0), (.glob "str")]), (.cmp (.var 0) .Eq (.var 1))])] [],
  .ite (.callB .isinst [(.var 1), (.glob "int")]) [
    .ret (.bop true [(.callF "_law_whole" [(.var 0)]), (.cmp (.var 0) .Eq (.var 1))])] [],
  .ite (.bop true [(.callB .isinst [(.var 1), (.glob "tuple")]), (.nt (.callB .isinst [(.var 0), (.glob "tuple")]))]) [
    .ret (.cBool false)] [],
  .ite (.bop true [(.callB .isinst [(.var 1), (.glob "list")]), (.nt (.callB .isinst [(.var 0), (.glob "list")]))]) [
    .ret (.cBool false)] [],
  .ite (.cmp (.callB .len [(.var 0)]) .NotEq (.callB .len [(.var 1)])) [
    .ret (.cBool false)] [],
  .for1 2 (.callB .range1 [(.callB .len [(.var 1)])]) [
    .ite (.nt (.callF "_law_alike" [(.idx (.var 0) (.var 2)), (.idx (.var 1) (.var 2))])) [
      .ret (.cBool false)] []],
  .ret (.cBool true)]⟩

def nxt (n : Int) : Int := (n * 48271 + 11) % 2147483647
def signs : List Nat := lit " !\"#$&'()*+,-./0123456789:;<=>?@ABCDEFGHIJKLMNOPQRSTUVWXYZ[\\]^_`" ++ lit "abcdefghijklmnopqrstuvwxyz{|}~"
theorem signs_length : signs.length = 94 := by decide +kernel
def signBy (c : Int) : Nat := signs.getD (c % 94).toNat 0
def wordGo (c : Int) : Nat → Int → List Nat → Int × List Nat
  | 0, n, w => (n, w)
  | k + 1, n, w => let r := wordGo c k n w; (nxt r.1, r.2 ++ [signBy (65 + nxt r.1 / 7 % (if c % 2 = 0 then 2 else 94))])
def wordBy (c : Int) (n : Nat) : List Nat := (wordGo c n c []).2
theorem wordGo_len (c : Int) : ∀ (k : Nat) (n : Int) (w : List Nat), (wordGo c k n w).2.length = w.length + k
  | 0, _, _ => rfl
  | k + 1, n, w => by show (_ ++ [_]).length = _; rw [List.length_append, wordGo_len c k]; rfl
theorem wordBy_len (c : Int) (n : Nat) : (wordBy c n).length = n := by unfold wordBy; rw [wordGo_len]; simp

section
variable {G : Gl} {m : Md} {σ : Hp} {X : Value → Hp → Prop} {Q : V → Hp → Prop}
theorem c_cell_at (GO : G.Ok) (FA : FnAt G (.ref (G.fn "_law_cell_at")) F_law_cell_at) {zs : List Int} (hz : zs.length ≤ 63) {k : Int} (hk : 0 ≤ k) (hd : 0 < m.d) (h : Q (.int (zs.getD k.toNat 0)) σ) :
    CallF G m "_law_cell_at" [.lst (zs.map .int), .int k] σ Q X := by
  refine call_of 0 GO FA rfl rfl hd (st_if ?_)
  simp only [wpE, wpL, wpB, wpO, r_add, r_sub, r_mul, r_mod, r_fdiv, r_adds, r_eqi, r_eqs, r_nei, r_nes, r_lt, r_le, r_gt, r_ge, r_is, r_isnot, r_isb, r_truth, r_idxs, r_idxl, r_slc, r_lens, r_lenr, r_lenl, r_inst, r_range, r_starts, r_starts', r_append, r_append', n_none, n_int, n_str, n_tup, n_ref, n_bool, isBool, List.getD_cons_zero, List.getD_cons_succ, ne_eq, reduceCtorEq, not_false_eq_true, true_and, List.set_cons_zero, List.set_cons_succ, Option.some.injEq, exists_eq_left', if_true, if_false, Bool.false_eq_true, Bool.not_true, Bool.not_false, i_none_str, i_none_int, i_none_bool, i_none_tuple, i_none_list, i_bool_str, i_bool_int, i_bool_bool, i_bool_tuple, i_bool_list, i_int_str, i_int_int, i_int_bool, i_int_tuple, i_int_list, i_str_str, i_str_int, i_str_bool, i_str_tuple, i_str_list, i_tup_str, i_tup_int, i_tup_bool, i_tup_tuple, i_tup_list, r_range2, r_lent, r_tuple1, r_int1, r_neg, List.replicate_succ, List.replicate_zero, List.cons_append, List.nil_append, List.length_cons, List.length_nil]
  refine ⟨by simp; omega, ?_⟩
  simp only [List.length_map]
  split
  · rename_i hlt
    have hlt : k < zs.length := by simpa using hlt
    have hn : k.toNat < zs.length := by omega
    refine ⟨.int (zs.getD k.toNat 0), hk, by omega, ?_, h⟩
    simp [List.getElem?_eq_getElem hn]
  · rename_i hlt
    have hlt : ¬ k < zs.length := by simpa using hlt
    refine st_ret ?_
    simp only [wpE, wpL, wpB, wpO, r_add, r_sub, r_mul, r_mod, r_fdiv, r_adds, r_eqi, r_eqs, r_nei, r_nes, r_lt, r_le, r_gt, r_ge, r_is, r_isnot, r_isb, r_truth, r_idxs, r_idxl, r_slc, r_lens, r_lenr, r_lenl, r_inst, r_range, r_starts, r_starts', r_append, r_append', n_none, n_int, n_str, n_tup, n_ref, n_bool, isBool, List.getD_cons_zero, List.getD_cons_succ, ne_eq, reduceCtorEq, not_false_eq_true, true_and, List.set_cons_zero, List.set_cons_succ, Option.some.injEq, exists_eq_left', if_true, if_false, Bool.false_eq_true, Bool.not_true, Bool.not_false, i_none_str, i_none_int, i_none_bool, i_none_tuple, i_none_list, i_bool_str, i_bool_int, i_bool_bool, i_bool_tuple, i_bool_list, i_int_str, i_int_int, i_int_bool, i_int_tuple, i_int_list, i_str_str, i_str_int, i_str_bool, i_str_tuple, i_str_list, i_tup_str, i_tup_int, i_tup_bool, i_tup_tuple, i_tup_list, r_range2, r_lent, r_tuple1, r_int1, r_neg, List.replicate_succ, List.replicate_zero, List.cons_append, List.nil_append, List.length_cons, List.length_nil]
    have : zs.getD k.toNat 0 = 0 := by simp [List.getD_eq_getElem?_getD]; rw [List.getElem?_eq_none (by omega)]; rfl
    rw [this] at h; exact h
theorem c_sign_by (GO : G.Ok) (FA : FnAt G (.ref (G.fn "_law_sign_by")) F_law_sign_by) {c : Int} (hd : 0 < m.d) (h : Q (.str [signBy c]) σ) :
    CallF G m "_law_sign_by" [.int c] σ Q X := by
  refine call_of 1 GO FA rfl rfl hd (st_asg ?_)
  simp only [wpE, wpL, wpB, wpO, r_add, r_sub, r_mul, r_mod, r_fdiv, r_adds, r_eqi, r_eqs, r_nei, r_nes, r_lt, r_le, r_gt, r_ge, r_is, r_isnot, r_isb, r_truth, r_idxs, r_idxl, r_slc, r_lens, r_lenr, r_lenl, r_inst, r_range, r_starts, r_starts', r_append, r_append', n_none, n_int, n_str, n_tup, n_ref, n_bool, isBool, List.getD_cons_zero, List.getD_cons_succ, ne_eq, reduceCtorEq, not_false_eq_true, true_and, List.set_cons_zero, List.set_cons_succ, Option.some.injEq, exists_eq_left', if_true, if_false, Bool.false_eq_true, Bool.not_true, Bool.not_false, i_none_str, i_none_int, i_none_bool, i_none_tuple, i_none_list, i_bool_str, i_bool_int, i_bool_bool, i_bool_tuple, i_bool_list, i_int_str, i_int_int, i_int_bool, i_int_tuple, i_int_list, i_str_str, i_str_int, i_str_bool, i_str_tuple, i_str_list, i_tup_str, i_tup_int, i_tup_bool, i_tup_tuple, i_tup_list, r_range2, r_lent, r_tuple1, r_int1, r_neg, List.replicate_succ, List.replicate_zero, List.cons_append, List.nil_append, List.length_cons, List.length_nil]
  refine st_asg ?_
  simp only [wpE, wpL, wpB, wpO, r_add, r_sub, r_mul, r_mod, r_fdiv, r_adds, r_eqi, r_eqs, r_nei, r_nes, r_lt, r_le, r_gt, r_ge, r_is, r_isnot, r_isb, r_truth, r_idxs, r_idxl, r_slc, r_lens, r_lenr, r_lenl, r_inst, r_range, r_starts, r_starts', r_append, r_append', n_none, n_int, n_str, n_tup, n_ref, n_bool, isBool, List.getD_cons_zero, List.getD_cons_succ, ne_eq, reduceCtorEq, not_false_eq_true, true_and, List.set_cons_zero, List.set_cons_succ, Option.some.injEq, exists_eq_left', if_true, if_false, Bool.false_eq_true, Bool.not_true, Bool.not_false, i_none_str, i_none_int, i_none_bool, i_none_tuple, i_none_list, i_bool_str, i_bool_int, i_bool_bool, i_bool_tuple, i_bool_list, i_int_str, i_int_int, i_int_bool, i_int_tuple, i_int_list, i_str_str, i_str_int, i_str_bool, i_str_tuple, i_str_list, i_tup_str, i_tup_int, i_tup_bool, i_tup_tuple, i_tup_list, r_range2, r_lent, r_tuple1, r_int1, r_neg, List.replicate_succ, List.replicate_zero, List.cons_append, List.nil_append, List.length_cons, List.length_nil]
  refine ⟨by decide +kernel, st_ret ?_⟩
  simp only [wpE, wpL, wpB, wpO, r_add, r_sub, r_mul, r_mod, r_fdiv, r_adds, r_eqi, r_eqs, r_nei, r_nes, r_lt, r_le, r_gt, r_ge, r_is, r_isnot, r_isb, r_truth, r_idxs, r_idxl, r_slc, r_lens, r_lenr, r_lenl, r_inst, r_range, r_starts, r_starts', r_append, r_append', n_none, n_int, n_str, n_tup, n_ref, n_bool, isBool, List.getD_cons_zero, List.getD_cons_succ, ne_eq, reduceCtorEq, not_false_eq_true, true_and, List.set_cons_zero, List.set_cons_succ, Option.some.injEq, exists_eq_left', if_true, if_false, Bool.false_eq_true, Bool.not_true, Bool.not_false, i_none_str, i_none_int, i_none_bool, i_none_tuple, i_none_list, i_bool_str, i_bool_int, i_bool_bool, i_bool_tuple, i_bool_list, i_int_str, i_int_int, i_int_bool, i_int_tuple, i_int_list, i_str_str, i_str_int, i_str_bool, i_str_tuple, i_str_list, i_tup_str, i_tup_int, i_tup_bool, i_tup_tuple, i_tup_list, r_range2, r_lent, r_tuple1, r_int1, r_neg, List.replicate_succ, List.replicate_zero, List.cons_append, List.nil_append, List.length_cons, List.length_nil]
  refine ⟨by omega, Int.emod_nonneg _ (by omega), ?_, ?_, h⟩
  · show c % 94 < signs.length; rw [signs_length]; omega
  · show signs.length < _; rw [signs_length]; omega
theorem c_word_by (GO : G.Ok) (FA : FnAt G (.ref (G.fn "_law_word_by")) F_law_word_by) (FS : IsFn G "_law_sign_by" ∧ FnAt G (.ref (G.fn "_law_sign_by")) F_law_sign_by) {c : Int} {n : Nat} (hn : n ≤ 1000) (hd : 1 < m.d) (hh : m.hd = true)
    (h : ∀ σ', Ext σ σ' → Q (.str (wordBy c n)) σ') : CallF G m "_law_word_by" [.int c, .int n] σ Q X := by
  refine call_of 3 GO FA rfl rfl (by omega) (st_asg ?_)
  simp only [wpE, wpL, wpB, wpO, r_add, r_sub, r_mul, r_mod, r_fdiv, r_adds, r_eqi, r_eqs, r_nei, r_nes, r_lt, r_le, r_gt, r_ge, r_is, r_isnot, r_isb, r_truth, r_idxs, r_idxl, r_slc, r_lens, r_lenr, r_lenl, r_inst, r_range, r_starts, r_starts', r_append, r_append', n_none, n_int, n_str, n_tup, n_ref, n_bool, isBool, List.getD_cons_zero, List.getD_cons_succ, ne_eq, reduceCtorEq, not_false_eq_true, true_and, List.set_cons_zero, List.set_cons_succ, Option.some.injEq, exists_eq_left', if_true, if_false, Bool.false_eq_true, Bool.not_true, Bool.not_false, i_none_str, i_none_int, i_none_bool, i_none_tuple, i_none_list, i_bool_str, i_bool_int, i_bool_bool, i_bool_tuple, i_bool_list, i_int_str, i_int_int, i_int_bool, i_int_tuple, i_int_list, i_str_str, i_str_int, i_str_bool, i_str_tuple, i_str_list, i_tup_str, i_tup_int, i_tup_bool, i_tup_tuple, i_tup_list, r_range2, r_lent, r_tuple1, r_int1, r_neg, List.replicate_succ, List.replicate_zero, List.cons_append, List.nil_append, List.length_cons, List.length_nil]
  refine st_asg ?_
  simp only [wpE, wpL, wpB, wpO, r_add, r_sub, r_mul, r_mod, r_fdiv, r_adds, r_eqi, r_eqs, r_nei, r_nes, r_lt, r_le, r_gt, r_ge, r_is, r_isnot, r_isb, r_truth, r_idxs, r_idxl, r_slc, r_lens, r_lenr, r_lenl, r_inst, r_range, r_starts, r_starts', r_append, r_append', n_none, n_int, n_str, n_tup, n_ref, n_bool, isBool, List.getD_cons_zero, List.getD_cons_succ, ne_eq, reduceCtorEq, not_false_eq_true, true_and, List.set_cons_zero, List.set_cons_succ, Option.some.injEq, exists_eq_left', if_true, if_false, Bool.false_eq_true, Bool.not_true, Bool.not_false, i_none_str, i_none_int, i_none_bool, i_none_tuple, i_none_list, i_bool_str, i_bool_int, i_bool_bool, i_bool_tuple, i_bool_list, i_int_str, i_int_int, i_int_bool, i_int_tuple, i_int_list, i_str_str, i_str_int, i_str_bool, i_str_tuple, i_str_list, i_tup_str, i_tup_int, i_tup_bool, i_tup_tuple, i_tup_list, r_range2, r_lent, r_tuple1, r_int1, r_neg, List.replicate_succ, List.replicate_zero, List.cons_append, List.nil_append, List.length_cons, List.length_nil]
  refine st_for1 hh ?_
  simp only [wpE, wpL, wpB, wpO, r_add, r_sub, r_mul, r_mod, r_fdiv, r_adds, r_eqi, r_eqs, r_nei, r_nes, r_lt, r_le, r_gt, r_ge, r_is, r_isnot, r_isb, r_truth, r_idxs, r_idxl, r_slc, r_lens, r_lenr, r_lenl, r_inst, r_range, r_starts, r_starts', r_append, r_append', n_none, n_int, n_str, n_tup, n_ref, n_bool, isBool, List.getD_cons_zero, List.getD_cons_succ, ne_eq, reduceCtorEq, not_false_eq_true, true_and, List.set_cons_zero, List.set_cons_succ, Option.some.injEq, exists_eq_left', if_true, if_false, Bool.false_eq_true, Bool.not_true, Bool.not_false, i_none_str, i_none_int, i_none_bool, i_none_tuple, i_none_list, i_bool_str, i_bool_int, i_bool_bool, i_bool_tuple, i_bool_list, i_int_str, i_int_int, i_int_bool, i_int_tuple, i_int_list, i_str_str, i_str_int, i_str_bool, i_str_tuple, i_str_list, i_tup_str, i_tup_int, i_tup_bool, i_tup_tuple, i_tup_list, r_range2, r_lent, r_tuple1, r_int1, r_neg, List.replicate_succ, List.replicate_zero, List.cons_append, List.nil_append, List.length_cons, List.length_nil]
  refine ⟨by omega, by omega, _, rfl, for_intro (fun i ρ σ' => Ext σ σ' ∧ ∃ kv, ρ = [.int c, .int n, .str (wordGo c i c []).2, .int (wordGo c i c []).1, kv]) ⟨.refl σ, .unb, rfl⟩ ?_ ?_⟩
  · rintro i ρ σ₁ x hx ⟨hE, kv, rfl⟩
    obtain ⟨hi, rfl⟩ := rng_get hx
    refine ⟨rfl, _, rfl, st_asg ?_⟩
    simp only [wpE, wpL, wpB, wpO, r_add, r_sub, r_mul, r_mod, r_fdiv, r_adds, r_eqi, r_eqs, r_nei, r_nes, r_lt, r_le, r_gt, r_ge, r_is, r_isnot, r_isb, r_truth, r_idxs, r_idxl, r_slc, r_lens, r_lenr, r_lenl, r_inst, r_range, r_starts, r_starts', r_append, r_append', n_none, n_int, n_str, n_tup, n_ref, n_bool, isBool, List.getD_cons_zero, List.getD_cons_succ, ne_eq, reduceCtorEq, not_false_eq_true, true_and, List.set_cons_zero, List.set_cons_succ, Option.some.injEq, exists_eq_left', if_true, if_false, Bool.false_eq_true, Bool.not_true, Bool.not_false, i_none_str, i_none_int, i_none_bool, i_none_tuple, i_none_list, i_bool_str, i_bool_int, i_bool_bool, i_bool_tuple, i_bool_list, i_int_str, i_int_int, i_int_bool, i_int_tuple, i_int_list, i_str_str, i_str_int, i_str_bool, i_str_tuple, i_str_list, i_tup_str, i_tup_int, i_tup_bool, i_tup_tuple, i_tup_list, r_range2, r_lent, r_tuple1, r_int1, r_neg, List.replicate_succ, List.replicate_zero, List.cons_append, List.nil_append, List.length_cons, List.length_nil]
    refine ⟨.of_right (by decide), by omega, st_asg ?_⟩
    simp only [wpE, wpL, wpB, wpO, r_add, r_sub, r_mul, r_mod, r_fdiv, r_adds, r_eqi, r_eqs, r_nei, r_nes, r_lt, r_le, r_gt, r_ge, r_is, r_isnot, r_isb, r_truth, r_idxs, r_idxl, r_slc, r_lens, r_lenr, r_lenl, r_inst, r_range, r_starts, r_starts', r_append, r_append', n_none, n_int, n_str, n_tup, n_ref, n_bool, isBool, List.getD_cons_zero, List.getD_cons_succ, ne_eq, reduceCtorEq, not_false_eq_true, true_and, List.set_cons_zero, List.set_cons_succ, Option.some.injEq, exists_eq_left', if_true, if_false, Bool.false_eq_true, Bool.not_true, Bool.not_false, i_none_str, i_none_int, i_none_bool, i_none_tuple, i_none_list, i_bool_str, i_bool_int, i_bool_bool, i_bool_tuple, i_bool_list, i_int_str, i_int_int, i_int_bool, i_int_tuple, i_int_list, i_str_str, i_str_int, i_str_bool, i_str_tuple, i_str_list, i_tup_str, i_tup_int, i_tup_bool, i_tup_tuple, i_tup_list, r_range2, r_lent, r_tuple1, r_int1, r_neg, List.replicate_succ, List.replicate_zero, List.cons_append, List.nil_append, List.length_cons, List.length_nil]
    refine ⟨FS.1, ⟨by omega, by omega, by decide, fun a ha => ⟨by omega, ?_⟩⟩⟩
    refine idx_lit (xs := [.int 2, .int 94]) (Int.emod_nonneg _ (by omega)) (by show _ < (2 : Int); omega) (by decide) (Hp.set_self ..) ?_
    have hv : [V.int 2, V.int 94].getD (c % 2).toNat .unb = .int (if c % 2 = 0 then 2 else 94) := by
      rcases (show c % 2 = 0 ∨ c % 2 = 1 by omega) with e | e <;> rw [e] <;> rfl
    rw [hv]
    simp only [wpE, wpL, wpB, wpO, r_add, r_sub, r_mul, r_mod, r_fdiv, r_adds, r_eqi, r_eqs, r_nei, r_nes, r_lt, r_le, r_gt, r_ge, r_is, r_isnot, r_isb, r_truth, r_idxs, r_idxl, r_slc, r_lens, r_lenr, r_lenl, r_inst, r_range, r_starts, r_starts', r_append, r_append', n_none, n_int, n_str, n_tup, n_ref, n_bool, isBool, List.getD_cons_zero, List.getD_cons_succ, ne_eq, reduceCtorEq, not_false_eq_true, true_and, List.set_cons_zero, List.set_cons_succ, Option.some.injEq, exists_eq_left', if_true, if_false, Bool.false_eq_true, Bool.not_true, Bool.not_false, i_none_str, i_none_int, i_none_bool, i_none_tuple, i_none_list, i_bool_str, i_bool_int, i_bool_bool, i_bool_tuple, i_bool_list, i_int_str, i_int_int, i_int_bool, i_int_tuple, i_int_list, i_str_str, i_str_int, i_str_bool, i_str_tuple, i_str_list, i_tup_str, i_tup_int, i_tup_bool, i_tup_tuple, i_tup_list, r_range2, r_lent, r_tuple1, r_int1, r_neg, List.replicate_succ, List.replicate_zero, List.cons_append, List.nil_append, List.length_cons, List.length_nil]
    refine ⟨by split <;> omega, c_sign_by GO FS.2 (by show 0 < m.d - 1; omega) ?_⟩
    simp only [wpE, wpL, wpB, wpO, r_add, r_sub, r_mul, r_mod, r_fdiv, r_adds, r_eqi, r_eqs, r_nei, r_nes, r_lt, r_le, r_gt, r_ge, r_is, r_isnot, r_isb, r_truth, r_idxs, r_idxl, r_slc, r_lens, r_lenr, r_lenl, r_inst, r_range, r_starts, r_starts', r_append, r_append', n_none, n_int, n_str, n_tup, n_ref, n_bool, isBool, List.getD_cons_zero, List.getD_cons_succ, ne_eq, reduceCtorEq, not_false_eq_true, true_and, List.set_cons_zero, List.set_cons_succ, Option.some.injEq, exists_eq_left', if_true, if_false, Bool.false_eq_true, Bool.not_true, Bool.not_false, i_none_str, i_none_int, i_none_bool, i_none_tuple, i_none_list, i_bool_str, i_bool_int, i_bool_bool, i_bool_tuple, i_bool_list, i_int_str, i_int_int, i_int_bool, i_int_tuple, i_int_list, i_str_str, i_str_int, i_str_bool, i_str_tuple, i_str_list, i_tup_str, i_tup_int, i_tup_bool, i_tup_tuple, i_tup_list, r_range2, r_lent, r_tuple1, r_int1, r_neg, List.replicate_succ, List.replicate_zero, List.cons_append, List.nil_append, List.length_cons, List.length_nil]
    refine ⟨by rw [wordGo_len]; simp; have : sizeLine = 16777216 := rfl; omega, st_nil ⟨hE.trans (.set ha), _, rfl⟩⟩
  · rintro ρ σ₁ ⟨hE, kv, rfl⟩
    rw [rng_len]
    refine ⟨rfl, st_ret ?_⟩
    simp only [wpE, wpL, wpB, wpO, r_add, r_sub, r_mul, r_mod, r_fdiv, r_adds, r_eqi, r_eqs, r_nei, r_nes, r_lt, r_le, r_gt, r_ge, r_is, r_isnot, r_isb, r_truth, r_idxs, r_idxl, r_slc, r_lens, r_lenr, r_lenl, r_inst, r_range, r_starts, r_starts', r_append, r_append', n_none, n_int, n_str, n_tup, n_ref, n_bool, isBool, List.getD_cons_zero, List.getD_cons_succ, ne_eq, reduceCtorEq, not_false_eq_true, true_and, List.set_cons_zero, List.set_cons_succ, Option.some.injEq, exists_eq_left', if_true, if_false, Bool.false_eq_true, Bool.not_true, Bool.not_false, i_none_str, i_none_int, i_none_bool, i_none_tuple, i_none_list, i_bool_str, i_bool_int, i_bool_bool, i_bool_tuple, i_bool_list, i_int_str, i_int_int, i_int_bool, i_int_tuple, i_int_list, i_str_str, i_str_int, i_str_bool, i_str_tuple, i_str_list, i_tup_str, i_tup_int, i_tup_bool, i_tup_tuple, i_tup_list, r_range2, r_lent, r_tuple1, r_int1, r_neg, List.replicate_succ, List.replicate_zero, List.cons_append, List.nil_append, List.length_cons, List.length_nil]
    exact h _ hE
def numGo (c : Int) : Nat → Int × Int
  | 0 => (c, 0)
  | k + 1 => (nxt (numGo c k).1, (numGo c k).2 * 10 + nxt (numGo c k).1 / 7 % 10)
def numBy (c : Int) : Int := if 1 < c % 5 then c / 5 % 39 - 19 else (if c / 5 % 2 = 0 then 1 else -1) * (numGo c (if c % 5 = 0 then 60 else (1 + c / 10 % 60).toNat)).2
theorem c_number_by (GO : G.Ok) (FA : FnAt G (.ref (G.fn "_law_number_by")) F_law_number_by) {c : Int} (hd : 0 < m.d) (hh : m.hd = true) (h : ∀ σ', Ext σ σ' → Q (.int (numBy c)) σ') : CallF G m "_law_number_by" [.int c] σ Q X := by
  refine call_of 4 GO FA rfl rfl hd (st_if ?_)
  simp only [wpE, wpL, wpB, wpO, r_add, r_sub, r_mul, r_mod, r_fdiv, r_adds, r_eqi, r_eqs, r_nei, r_nes, r_lt, r_le, r_gt, r_ge, r_is, r_isnot, r_isb, r_truth, r_idxs, r_idxl, r_slc, r_lens, r_lenr, r_lenl, r_inst, r_range, r_starts, r_starts', r_append, r_append', n_none, n_int, n_str, n_tup, n_ref, n_bool, isBool, List.getD_cons_zero, List.getD_cons_succ, ne_eq, reduceCtorEq, not_false_eq_true, true_and, List.set_cons_zero, List.set_cons_succ, Option.some.injEq, exists_eq_left', if_true, if_false, Bool.false_eq_true, Bool.not_true, Bool.not_false, i_none_str, i_none_int, i_none_bool, i_none_tuple, i_none_list, i_bool_str, i_bool_int, i_bool_bool, i_bool_tuple, i_bool_list, i_int_str, i_int_int, i_int_bool, i_int_tuple, i_int_list, i_str_str, i_str_int, i_str_bool, i_str_tuple, i_str_list, i_tup_str, i_tup_int, i_tup_bool, i_tup_tuple, i_tup_list, r_range2, r_lent, r_tuple1, r_int1, r_neg, List.replicate_succ, List.replicate_zero, List.cons_append, List.nil_append, List.length_cons, List.length_nil]
  refine ⟨by omega, ?_⟩
  split
  · rename_i hc
    have hc : 1 < c % 5 := by simpa using hc
    refine ⟨by omega, by omega, by omega, ?_⟩
    have e : numBy c = c / 5 % 39 - 19 := if_pos hc
    rw [← e]
    exact h σ (.refl σ)
  · rename_i hc
    have hc : ¬ 1 < c % 5 := by simpa using hc
    have en : numBy c = (if c / 5 % 2 = 0 then 1 else -1) * (numGo c (if c % 5 = 0 then 60 else (1 + c / 10 % 60).toNat)).2 := if_neg hc
    refine st_asg ?_
    simp only [wpE, wpL, wpB, wpO, r_add, r_sub, r_mul, r_mod, r_fdiv, r_adds, r_eqi, r_eqs, r_nei, r_nes, r_lt, r_le, r_gt, r_ge, r_is, r_isnot, r_isb, r_truth, r_idxs, r_idxl, r_slc, r_lens, r_lenr, r_lenl, r_inst, r_range, r_starts, r_starts', r_append, r_append', n_none, n_int, n_str, n_tup, n_ref, n_bool, isBool, List.getD_cons_zero, List.getD_cons_succ, ne_eq, reduceCtorEq, not_false_eq_true, true_and, List.set_cons_zero, List.set_cons_succ, Option.some.injEq, exists_eq_left', if_true, if_false, Bool.false_eq_true, Bool.not_true, Bool.not_false, i_none_str, i_none_int, i_none_bool, i_none_tuple, i_none_list, i_bool_str, i_bool_int, i_bool_bool, i_bool_tuple, i_bool_list, i_int_str, i_int_int, i_int_bool, i_int_tuple, i_int_list, i_str_str, i_str_int, i_str_bool, i_str_tuple, i_str_list, i_tup_str, i_tup_int, i_tup_bool, i_tup_tuple, i_tup_list, r_range2, r_lent, r_tuple1, r_int1, r_neg, List.replicate_succ, List.replicate_zero, List.cons_append, List.nil_append, List.length_cons, List.length_nil]
    refine ⟨by omega, by omega, by omega, (show 2 ≤ sizeLine by decide), fun a ha => ⟨by omega, ?_⟩⟩
    refine idx_lit (xs := [.int 60, .int (1 + c / 10 % 60)]) (Int.emod_nonneg _ (by omega)) (by show _ < (2 : Int); omega) (by show 2 < 2 ^ 62; decide) (Hp.set_self ..) ?_
    obtain ⟨n, hn, e1⟩ : ∃ n : Nat, n ≤ 60 ∧ n = (if c % 5 = 0 then 60 else (1 + c / 10 % 60).toNat) := ⟨_, by split <;> omega, rfl⟩
    have hv : [V.int 60, V.int (1 + c / 10 % 60)].getD (c % 5).toNat .unb = .int n := by
      rw [e1]
      rcases (show c % 5 = 0 ∨ c % 5 = 1 by omega) with e | e <;> rw [e]
      · rfl
      · show V.int _ = V.int _
        simp only [Int.one_ne_zero, if_false]
        congr 1; omega
    rw [hv]
    rw [← e1] at en
    refine st_asg ?_
    simp only [wpE, wpL, wpB, wpO, r_add, r_sub, r_mul, r_mod, r_fdiv, r_adds, r_eqi, r_eqs, r_nei, r_nes, r_lt, r_le, r_gt, r_ge, r_is, r_isnot, r_isb, r_truth, r_idxs, r_idxl, r_slc, r_lens, r_lenr, r_lenl, r_inst, r_range, r_starts, r_starts', r_append, r_append', n_none, n_int, n_str, n_tup, n_ref, n_bool, isBool, List.getD_cons_zero, List.getD_cons_succ, ne_eq, reduceCtorEq, not_false_eq_true, true_and, List.set_cons_zero, List.set_cons_succ, Option.some.injEq, exists_eq_left', if_true, if_false, Bool.false_eq_true, Bool.not_true, Bool.not_false, i_none_str, i_none_int, i_none_bool, i_none_tuple, i_none_list, i_bool_str, i_bool_int, i_bool_bool, i_bool_tuple, i_bool_list, i_int_str, i_int_int, i_int_bool, i_int_tuple, i_int_list, i_str_str, i_str_int, i_str_bool, i_str_tuple, i_str_list, i_tup_str, i_tup_int, i_tup_bool, i_tup_tuple, i_tup_list, r_range2, r_lent, r_tuple1, r_int1, r_neg, List.replicate_succ, List.replicate_zero, List.cons_append, List.nil_append, List.length_cons, List.length_nil]
    refine st_asg ?_
    simp only [wpE, wpL, wpB, wpO, r_add, r_sub, r_mul, r_mod, r_fdiv, r_adds, r_eqi, r_eqs, r_nei, r_nes, r_lt, r_le, r_gt, r_ge, r_is, r_isnot, r_isb, r_truth, r_idxs, r_idxl, r_slc, r_lens, r_lenr, r_lenl, r_inst, r_range, r_starts, r_starts', r_append, r_append', n_none, n_int, n_str, n_tup, n_ref, n_bool, isBool, List.getD_cons_zero, List.getD_cons_succ, ne_eq, reduceCtorEq, not_false_eq_true, true_and, List.set_cons_zero, List.set_cons_succ, Option.some.injEq, exists_eq_left', if_true, if_false, Bool.false_eq_true, Bool.not_true, Bool.not_false, i_none_str, i_none_int, i_none_bool, i_none_tuple, i_none_list, i_bool_str, i_bool_int, i_bool_bool, i_bool_tuple, i_bool_list, i_int_str, i_int_int, i_int_bool, i_int_tuple, i_int_list, i_str_str, i_str_int, i_str_bool, i_str_tuple, i_str_list, i_tup_str, i_tup_int, i_tup_bool, i_tup_tuple, i_tup_list, r_range2, r_lent, r_tuple1, r_int1, r_neg, List.replicate_succ, List.replicate_zero, List.cons_append, List.nil_append, List.length_cons, List.length_nil]
    refine st_for1 hh ?_
    simp only [wpE, wpL, wpB, wpO, r_add, r_sub, r_mul, r_mod, r_fdiv, r_adds, r_eqi, r_eqs, r_nei, r_nes, r_lt, r_le, r_gt, r_ge, r_is, r_isnot, r_isb, r_truth, r_idxs, r_idxl, r_slc, r_lens, r_lenr, r_lenl, r_inst, r_range, r_starts, r_starts', r_append, r_append', n_none, n_int, n_str, n_tup, n_ref, n_bool, isBool, List.getD_cons_zero, List.getD_cons_succ, ne_eq, reduceCtorEq, not_false_eq_true, true_and, List.set_cons_zero, List.set_cons_succ, Option.some.injEq, exists_eq_left', if_true, if_false, Bool.false_eq_true, Bool.not_true, Bool.not_false, i_none_str, i_none_int, i_none_bool, i_none_tuple, i_none_list, i_bool_str, i_bool_int, i_bool_bool, i_bool_tuple, i_bool_list, i_int_str, i_int_int, i_int_bool, i_int_tuple, i_int_list, i_str_str, i_str_int, i_str_bool, i_str_tuple, i_str_list, i_tup_str, i_tup_int, i_tup_bool, i_tup_tuple, i_tup_list, r_range2, r_lent, r_tuple1, r_int1, r_neg, List.replicate_succ, List.replicate_zero, List.cons_append, List.nil_append, List.length_cons, List.length_nil]
    refine ⟨by omega, by omega, _, rfl, for_intro (fun i ρ σ' => Ext σ σ' ∧ ∃ kv, ρ = [.int c, .int n, .int (numGo c i).2, .int (numGo c i).1, kv]) ⟨.set ha, .unb, rfl⟩ ?_ ?_⟩
    · rintro i ρ σ₁ x hx ⟨hE, kv, rfl⟩
      obtain ⟨hi, rfl⟩ := rng_get hx
      refine ⟨rfl, _, rfl, st_asg ?_⟩
      simp only [wpE, wpL, wpB, wpO, r_add, r_sub, r_mul, r_mod, r_fdiv, r_adds, r_eqi, r_eqs, r_nei, r_nes, r_lt, r_le, r_gt, r_ge, r_is, r_isnot, r_isb, r_truth, r_idxs, r_idxl, r_slc, r_lens, r_lenr, r_lenl, r_inst, r_range, r_starts, r_starts', r_append, r_append', n_none, n_int, n_str, n_tup, n_ref, n_bool, isBool, List.getD_cons_zero, List.getD_cons_succ, ne_eq, reduceCtorEq, not_false_eq_true, true_and, List.set_cons_zero, List.set_cons_succ, Option.some.injEq, exists_eq_left', if_true, if_false, Bool.false_eq_true, Bool.not_true, Bool.not_false, i_none_str, i_none_int, i_none_bool, i_none_tuple, i_none_list, i_bool_str, i_bool_int, i_bool_bool, i_bool_tuple, i_bool_list, i_int_str, i_int_int, i_int_bool, i_int_tuple, i_int_list, i_str_str, i_str_int, i_str_bool, i_str_tuple, i_str_list, i_tup_str, i_tup_int, i_tup_bool, i_tup_tuple, i_tup_list, r_range2, r_lent, r_tuple1, r_int1, r_neg, List.replicate_succ, List.replicate_zero, List.cons_append, List.nil_append, List.length_cons, List.length_nil]
      refine ⟨.of_right (by decide), by omega, st_asg ?_⟩
      simp only [wpE, wpL, wpB, wpO, r_add, r_sub, r_mul, r_mod, r_fdiv, r_adds, r_eqi, r_eqs, r_nei, r_nes, r_lt, r_le, r_gt, r_ge, r_is, r_isnot, r_isb, r_truth, r_idxs, r_idxl, r_slc, r_lens, r_lenr, r_lenl, r_inst, r_range, r_starts, r_starts', r_append, r_append', n_none, n_int, n_str, n_tup, n_ref, n_bool, isBool, List.getD_cons_zero, List.getD_cons_succ, ne_eq, reduceCtorEq, not_false_eq_true, true_and, List.set_cons_zero, List.set_cons_succ, Option.some.injEq, exists_eq_left', if_true, if_false, Bool.false_eq_true, Bool.not_true, Bool.not_false, i_none_str, i_none_int, i_none_bool, i_none_tuple, i_none_list, i_bool_str, i_bool_int, i_bool_bool, i_bool_tuple, i_bool_list, i_int_str, i_int_int, i_int_bool, i_int_tuple, i_int_list, i_str_str, i_str_int, i_str_bool, i_str_tuple, i_str_list, i_tup_str, i_tup_int, i_tup_bool, i_tup_tuple, i_tup_list, r_range2, r_lent, r_tuple1, r_int1, r_neg, List.replicate_succ, List.replicate_zero, List.cons_append, List.nil_append, List.length_cons, List.length_nil]
      refine ⟨.of_right (by decide), by omega, by omega, by omega, st_nil ⟨hE, _, rfl⟩⟩
    · rintro ρ σ₁ ⟨hE, kv, rfl⟩
      rw [rng_len]
      refine ⟨rfl, st_ret ?_⟩
      simp only [wpE, wpL, wpB, wpO, r_add, r_sub, r_mul, r_mod, r_fdiv, r_adds, r_eqi, r_eqs, r_nei, r_nes, r_lt, r_le, r_gt, r_ge, r_is, r_isnot, r_isb, r_truth, r_idxs, r_idxl, r_slc, r_lens, r_lenr, r_lenl, r_inst, r_range, r_starts, r_starts', r_append, r_append', n_none, n_int, n_str, n_tup, n_ref, n_bool, isBool, List.getD_cons_zero, List.getD_cons_succ, ne_eq, reduceCtorEq, not_false_eq_true, true_and, List.set_cons_zero, List.set_cons_succ, Option.some.injEq, exists_eq_left', if_true, if_false, Bool.false_eq_true, Bool.not_true, Bool.not_false, i_none_str, i_none_int, i_none_bool, i_none_tuple, i_none_list, i_bool_str, i_bool_int, i_bool_bool, i_bool_tuple, i_bool_list, i_int_str, i_int_int, i_int_bool, i_int_tuple, i_int_list, i_str_str, i_str_int, i_str_bool, i_str_tuple, i_str_list, i_tup_str, i_tup_int, i_tup_bool, i_tup_tuple, i_tup_list, r_range2, r_lent, r_tuple1, r_int1, r_neg, List.replicate_succ, List.replicate_zero, List.cons_append, List.nil_append, List.length_cons, List.length_nil]
      refine ⟨(show 2 ≤ sizeLine by decide), fun b hb => ⟨by omega, by omega, by omega, ?_⟩⟩
      refine idx_lit (xs := [.int 1, .int (-1)]) (Int.emod_nonneg _ (by omega)) (by show _ < (2 : Int); omega) (by show 2 < 2 ^ 62; decide) (Hp.set_self ..) ?_
      have hv : [V.int 1, V.int (-1)].getD (c / 5 % 2).toNat .unb = .int (if c / 5 % 2 = 0 then 1 else -1) := by
        rcases (show c / 5 % 2 = 0 ∨ c / 5 % 2 = 1 by omega) with e | e <;> rw [e] <;> rfl
      rw [hv]
      simp only [wpE, wpL, wpB, wpO, r_add, r_sub, r_mul, r_mod, r_fdiv, r_adds, r_eqi, r_eqs, r_nei, r_nes, r_lt, r_le, r_gt, r_ge, r_is, r_isnot, r_isb, r_truth, r_idxs, r_idxl, r_slc, r_lens, r_lenr, r_lenl, r_inst, r_range, r_starts, r_starts', r_append, r_append', n_none, n_int, n_str, n_tup, n_ref, n_bool, isBool, List.getD_cons_zero, List.getD_cons_succ, ne_eq, reduceCtorEq, not_false_eq_true, true_and, List.set_cons_zero, List.set_cons_succ, Option.some.injEq, exists_eq_left', if_true, if_false, Bool.false_eq_true, Bool.not_true, Bool.not_false, i_none_str, i_none_int, i_none_bool, i_none_tuple, i_none_list, i_bool_str, i_bool_int, i_bool_bool, i_bool_tuple, i_bool_list, i_int_str, i_int_int, i_int_bool, i_int_tuple, i_int_list, i_str_str, i_str_int, i_str_bool, i_str_tuple, i_str_list, i_tup_str, i_tup_int, i_tup_bool, i_tup_tuple, i_tup_list, r_range2, r_lent, r_tuple1, r_int1, r_neg, List.replicate_succ, List.replicate_zero, List.cons_append, List.nil_append, List.length_cons, List.length_nil]
      refine ⟨.of_left (by split <;> decide), ?_⟩
      rw [← en]
      exact h _ (hE.trans (.set hb))
theorem c_whole (GO : G.Ok) (FA : FnAt G (.ref (G.fn "_law_whole")) F_law_whole) (gi : G.gl "int" = .prim (.type "int")) (gb : G.gl "bool" = .prim (.type "bool")) {c : Int} (hd : 0 < m.d) (h : Q (.bool true) σ) : CallF G m "_law_whole" [.int c] σ Q X := by
  refine call_of 0 GO FA rfl rfl hd (st_ret ?_)
  simp only [wpE, wpL, wpB, wpO, r_add, r_sub, r_mul, r_mod, r_fdiv, r_adds, r_eqi, r_eqs, r_nei, r_nes, r_lt, r_le, r_gt, r_ge, r_is, r_isnot, r_isb, r_truth, r_idxs, r_idxl, r_slc, r_lens, r_lenr, r_lenl, r_inst, r_range, r_starts, r_starts', r_append, r_append', n_none, n_int, n_str, n_tup, n_ref, n_bool, isBool, List.getD_cons_zero, List.getD_cons_succ, ne_eq, reduceCtorEq, not_false_eq_true, true_and, List.set_cons_zero, List.set_cons_succ, Option.some.injEq, exists_eq_left', if_true, if_false, Bool.false_eq_true, Bool.not_true, Bool.not_false, i_none_str, i_none_int, i_none_bool, i_none_tuple, i_none_list, i_bool_str, i_bool_int, i_bool_bool, i_bool_tuple, i_bool_list, i_int_str, i_int_int, i_int_bool, i_int_tuple, i_int_list, i_str_str, i_str_int, i_str_bool, i_str_tuple, i_str_list, i_tup_str, i_tup_int, i_tup_bool, i_tup_tuple, i_tup_list, r_range2, r_lent, r_tuple1, r_int1, r_neg, List.replicate_succ, List.replicate_zero, List.cons_append, List.nil_append, List.length_cons, List.length_nil, gi, gb]
  exact h

/-- what the law's own comparison calls alike -/
inductive Alk (σ : Hp) : Nat → V → V → Prop
  | none (n : Nat) : Alk σ (n + 1) .none .none
  | str (n : Nat) (s : List Nat) : Alk σ (n + 1) (.str s) (.str s)
  | int (n : Nat) (i : Int) : Alk σ (n + 1) (.int i) (.int i)
  | tup (n : Nat) {xs ys : List V} : xs.length = ys.length → xs.length ≤ sizeLine → (∀ (i : Nat) (x y : V), xs[i]? = some x → ys[i]? = some y → Alk σ n x y) → Alk σ (n + 1) (.tup xs) (.tup ys)
  | list (n : Nat) {a b : Addr} {xs ys : List V} : σ a = some (.list xs) → σ b = some (.list ys) → xs.length = ys.length → xs.length ≤ sizeLine → (∀ (i : Nat) (x y : V), xs[i]? = some x → ys[i]? = some y → Alk σ n x y) → Alk σ (n + 1) (.ref a) (.ref b)
/-- plain data, no deeper than n -/
inductive Pl : Nat → V → Prop
  | none (n : Nat) : Pl (n + 1) .none
  | str (n : Nat) (s : List Nat) : Pl (n + 1) (.str s)
  | int (n : Nat) (i : Int) : Pl (n + 1) (.int i)
  | tup (n : Nat) {xs : List V} : xs.length ≤ sizeLine → (∀ x ∈ xs, Pl n x) → Pl (n + 1) (.tup xs)
theorem Pl.up {n : Nat} {x : V} (h : Pl n x) : Pl (n + 1) x := by
  induction h with
  | none n => exact .none _
  | str n s => exact .str _ s
  | int n i => exact .int _ i
  | tup n hl _ ih => exact .tup _ hl ih
theorem Pl.alk {n : Nat} {x : V} (h : Pl n x) {σ : Hp} : Alk σ n x x := by
  induction h with
  | none n => exact .none _
  | str n s => exact .str _ s
  | int n i => exact .int _ i
  | tup n hl _ ih =>
    refine .tup _ rfl hl fun i x y hx hy => ?_
    rw [hx] at hy; cases hy
    exact ih x (List.mem_of_getElem? hx)
structure TyGl (G : Gl) : Prop where
  str : G.gl "str" = .prim (.type "str")
  int : G.gl "int" = .prim (.type "int")
  bool : G.gl "bool" = .prim (.type "bool")
  tuple : G.gl "tuple" = .prim (.type "tuple")
  list : G.gl "list" = .prim (.type "list")
theorem c_alike (GO : G.Ok) (FA : IsFn G "_law_alike" ∧ FnAt G (.ref (G.fn "_law_alike")) F_law_alike) (FW : IsFn G "_law_whole" ∧ FnAt G (.ref (G.fn "_law_whole")) F_law_whole) (T : TyGl G) :
    ∀ (n : Nat) {m : Md} {x y : V} {Q : V → Hp → Prop}, Alk σ n x y → n + 1 ≤ m.d → m.hd = true → Q (.bool true) σ → CallF G m "_law_alike" [x, y] σ Q X := by
  have hS : sizeLine = 16777216 := rfl
  intro n
  induction n with
  | zero => intro m x y Q h; cases h
  | succ n ih =>
    intro m x y Q h hd hh q
    refine call_of 1 GO FA.2 rfl rfl (by omega) (st_if ?_)
    cases h with
    | none => simp only [wpE, wpL, wpB, wpO, r_add, r_sub, r_mul, r_mod, r_fdiv, r_adds, r_eqi, r_eqs, r_nei, r_nes, r_lt, r_le, r_gt, r_ge, r_is, r_isnot, r_isb, r_truth, r_idxs, r_idxl, r_slc, r_lens, r_lenr, r_lenl, r_inst, r_range, r_starts, r_starts', r_append, r_append', n_none, n_int, n_str, n_tup, n_ref, n_bool, isBool, List.getD_cons_zero, List.getD_cons_succ, ne_eq, reduceCtorEq, not_false_eq_true, true_and, List.set_cons_zero, List.set_cons_succ, Option.some.injEq, exists_eq_left', if_true, if_false, Bool.false_eq_true, Bool.not_true, Bool.not_false, i_none_str, i_none_int, i_none_bool, i_none_tuple, i_none_list, i_bool_str, i_bool_int, i_bool_bool, i_bool_tuple, i_bool_list, i_int_str, i_int_int, i_int_bool, i_int_tuple, i_int_list, i_str_str, i_str_int, i_str_bool, i_str_tuple, i_str_list, i_tup_str, i_tup_int, i_tup_bool, i_tup_tuple, i_tup_list, r_range2, r_lent, r_tuple1, r_int1, r_neg, List.replicate_succ, List.replicate_zero, List.cons_append, List.nil_append, List.length_cons, List.length_nil]; exact q
    | str s =>
      simp only [wpE, wpL, wpB, wpO, r_add, r_sub, r_mul, r_mod, r_fdiv, r_adds, r_eqi, r_eqs, r_nei, r_nes, r_lt, r_le, r_gt, r_ge, r_is, r_isnot, r_isb, r_truth, r_idxs, r_idxl, r_slc, r_lens, r_lenr, r_lenl, r_inst, r_range, r_starts, r_starts', r_append, r_append', n_none, n_int, n_str, n_tup, n_ref, n_bool, isBool, List.getD_cons_zero, List.getD_cons_succ, ne_eq, reduceCtorEq, not_false_eq_true, true_and, List.set_cons_zero, List.set_cons_succ, Option.some.injEq, exists_eq_left', if_true, if_false, Bool.false_eq_true, Bool.not_true, Bool.not_false, i_none_str, i_none_int, i_none_bool, i_none_tuple, i_none_list, i_bool_str, i_bool_int, i_bool_bool, i_bool_tuple, i_bool_list, i_int_str, i_int_int, i_int_bool, i_int_tuple, i_int_list, i_str_str, i_str_int, i_str_bool, i_str_tuple, i_str_list, i_tup_str, i_tup_int, i_tup_bool, i_tup_tuple, i_tup_list, r_range2, r_lent, r_tuple1, r_int1, r_neg, List.replicate_succ, List.replicate_zero, List.cons_append, List.nil_append, List.length_cons, List.length_nil]
      refine st_if ?_
      simp only [wpE, wpL, wpB, wpO, r_add, r_sub, r_mul, r_mod, r_fdiv, r_adds, r_eqi, r_eqs, r_nei, r_nes, r_lt, r_le, r_gt, r_ge, r_is, r_isnot, r_isb, r_truth, r_idxs, r_idxl, r_slc, r_lens, r_lenr, r_lenl, r_inst, r_range, r_starts, r_starts', r_append, r_append', n_none, n_int, n_str, n_tup, n_ref, n_bool, isBool, List.getD_cons_zero, List.getD_cons_succ, ne_eq, reduceCtorEq, not_false_eq_true, true_and, List.set_cons_zero, List.set_cons_succ, Option.some.injEq, exists_eq_left', if_true, if_false, Bool.false_eq_true, Bool.not_true, Bool.not_false, i_none_str, i_none_int, i_none_bool, i_none_tuple, i_none_list, i_bool_str, i_bool_int, i_bool_bool, i_bool_tuple, i_bool_list, i_int_str, i_int_int, i_int_bool, i_int_tuple, i_int_list, i_str_str, i_str_int, i_str_bool, i_str_tuple, i_str_list, i_tup_str, i_tup_int, i_tup_bool, i_tup_tuple, i_tup_list, r_range2, r_lent, r_tuple1, r_int1, r_neg, List.replicate_succ, List.replicate_zero, List.cons_append, List.nil_append, List.length_cons, List.length_nil, T.str, beq_self_eq_true]
      exact q
    | int i =>
      simp only [wpE, wpL, wpB, wpO, r_add, r_sub, r_mul, r_mod, r_fdiv, r_adds, r_eqi, r_eqs, r_nei, r_nes, r_lt, r_le, r_gt, r_ge, r_is, r_isnot, r_isb, r_truth, r_idxs, r_idxl, r_slc, r_lens, r_lenr, r_lenl, r_inst, r_range, r_starts, r_starts', r_append, r_append', n_none, n_int, n_str, n_tup, n_ref, n_bool, isBool, List.getD_cons_zero, List.getD_cons_succ, ne_eq, reduceCtorEq, not_false_eq_true, true_and, List.set_cons_zero, List.set_cons_succ, Option.some.injEq, exists_eq_left', if_true, if_false, Bool.false_eq_true, Bool.not_true, Bool.not_false, i_none_str, i_none_int, i_none_bool, i_none_tuple, i_none_list, i_bool_str, i_bool_int, i_bool_bool, i_bool_tuple, i_bool_list, i_int_str, i_int_int, i_int_bool, i_int_tuple, i_int_list, i_str_str, i_str_int, i_str_bool, i_str_tuple, i_str_list, i_tup_str, i_tup_int, i_tup_bool, i_tup_tuple, i_tup_list, r_range2, r_lent, r_tuple1, r_int1, r_neg, List.replicate_succ, List.replicate_zero, List.cons_append, List.nil_append, List.length_cons, List.length_nil]
      refine st_if ?_
      simp only [wpE, wpL, wpB, wpO, r_add, r_sub, r_mul, r_mod, r_fdiv, r_adds, r_eqi, r_eqs, r_nei, r_nes, r_lt, r_le, r_gt, r_ge, r_is, r_isnot, r_isb, r_truth, r_idxs, r_idxl, r_slc, r_lens, r_lenr, r_lenl, r_inst, r_range, r_starts, r_starts', r_append, r_append', n_none, n_int, n_str, n_tup, n_ref, n_bool, isBool, List.getD_cons_zero, List.getD_cons_succ, ne_eq, reduceCtorEq, not_false_eq_true, true_and, List.set_cons_zero, List.set_cons_succ, Option.some.injEq, exists_eq_left', if_true, if_false, Bool.false_eq_true, Bool.not_true, Bool.not_false, i_none_str, i_none_int, i_none_bool, i_none_tuple, i_none_list, i_bool_str, i_bool_int, i_bool_bool, i_bool_tuple, i_bool_list, i_int_str, i_int_int, i_int_bool, i_int_tuple, i_int_list, i_str_str, i_str_int, i_str_bool, i_str_tuple, i_str_list, i_tup_str, i_tup_int, i_tup_bool, i_tup_tuple, i_tup_list, r_range2, r_lent, r_tuple1, r_int1, r_neg, List.replicate_succ, List.replicate_zero, List.cons_append, List.nil_append, List.length_cons, List.length_nil, T.str, T.int]
      refine st_if ?_
      simp only [wpE, wpL, wpB, wpO, r_add, r_sub, r_mul, r_mod, r_fdiv, r_adds, r_eqi, r_eqs, r_nei, r_nes, r_lt, r_le, r_gt, r_ge, r_is, r_isnot, r_isb, r_truth, r_idxs, r_idxl, r_slc, r_lens, r_lenr, r_lenl, r_inst, r_range, r_starts, r_starts', r_append, r_append', n_none, n_int, n_str, n_tup, n_ref, n_bool, isBool, List.getD_cons_zero, List.getD_cons_succ, ne_eq, reduceCtorEq, not_false_eq_true, true_and, List.set_cons_zero, List.set_cons_succ, Option.some.injEq, exists_eq_left', if_true, if_false, Bool.false_eq_true, Bool.not_true, Bool.not_false, i_none_str, i_none_int, i_none_bool, i_none_tuple, i_none_list, i_bool_str, i_bool_int, i_bool_bool, i_bool_tuple, i_bool_list, i_int_str, i_int_int, i_int_bool, i_int_tuple, i_int_list, i_str_str, i_str_int, i_str_bool, i_str_tuple, i_str_list, i_tup_str, i_tup_int, i_tup_bool, i_tup_tuple, i_tup_list, r_range2, r_lent, r_tuple1, r_int1, r_neg, List.replicate_succ, List.replicate_zero, List.cons_append, List.nil_append, List.length_cons, List.length_nil, T.str, T.int]
      refine ⟨FW.1, c_whole GO FW.2 T.int T.bool (by show 0 < m.d - 1; omega) ?_⟩
      simp only [wpE, wpL, wpB, wpO, r_add, r_sub, r_mul, r_mod, r_fdiv, r_adds, r_eqi, r_eqs, r_nei, r_nes, r_lt, r_le, r_gt, r_ge, r_is, r_isnot, r_isb, r_truth, r_idxs, r_idxl, r_slc, r_lens, r_lenr, r_lenl, r_inst, r_range, r_starts, r_starts', r_append, r_append', n_none, n_int, n_str, n_tup, n_ref, n_bool, isBool, List.getD_cons_zero, List.getD_cons_succ, ne_eq, reduceCtorEq, not_false_eq_true, true_and, List.set_cons_zero, List.set_cons_succ, Option.some.injEq, exists_eq_left', if_true, if_false, Bool.false_eq_true, Bool.not_true, Bool.not_false, i_none_str, i_none_int, i_none_bool, i_none_tuple, i_none_list, i_bool_str, i_bool_int, i_bool_bool, i_bool_tuple, i_bool_list, i_int_str, i_int_int, i_int_bool, i_int_tuple, i_int_list, i_str_str, i_str_int, i_str_bool, i_str_tuple, i_str_list, i_tup_str, i_tup_int, i_tup_bool, i_tup_tuple, i_tup_list, r_range2, r_lent, r_tuple1, r_int1, r_neg, List.replicate_succ, List.replicate_zero, List.cons_append, List.nil_append, List.length_cons, List.length_nil, beq_self_eq_true]
      exact q
    | @tup _ xs ys hl hz hr =>
      simp only [wpE, wpL, wpB, wpO, r_add, r_sub, r_mul, r_mod, r_fdiv, r_adds, r_eqi, r_eqs, r_nei, r_nes, r_lt, r_le, r_gt, r_ge, r_is, r_isnot, r_isb, r_truth, r_idxs, r_idxl, r_slc, r_lens, r_lenr, r_lenl, r_inst, r_range, r_starts, r_starts', r_append, r_append', n_none, n_int, n_str, n_tup, n_ref, n_bool, isBool, List.getD_cons_zero, List.getD_cons_succ, ne_eq, reduceCtorEq, not_false_eq_true, true_and, List.set_cons_zero, List.set_cons_succ, Option.some.injEq, exists_eq_left', if_true, if_false, Bool.false_eq_true, Bool.not_true, Bool.not_false, i_none_str, i_none_int, i_none_bool, i_none_tuple, i_none_list, i_bool_str, i_bool_int, i_bool_bool, i_bool_tuple, i_bool_list, i_int_str, i_int_int, i_int_bool, i_int_tuple, i_int_list, i_str_str, i_str_int, i_str_bool, i_str_tuple, i_str_list, i_tup_str, i_tup_int, i_tup_bool, i_tup_tuple, i_tup_list, r_range2, r_lent, r_tuple1, r_int1, r_neg, List.replicate_succ, List.replicate_zero, List.cons_append, List.nil_append, List.length_cons, List.length_nil]
      refine st_if ?_
      simp only [wpE, wpL, wpB, wpO, r_add, r_sub, r_mul, r_mod, r_fdiv, r_adds, r_eqi, r_eqs, r_nei, r_nes, r_lt, r_le, r_gt, r_ge, r_is, r_isnot, r_isb, r_truth, r_idxs, r_idxl, r_slc, r_lens, r_lenr, r_lenl, r_inst, r_range, r_starts, r_starts', r_append, r_append', n_none, n_int, n_str, n_tup, n_ref, n_bool, isBool, List.getD_cons_zero, List.getD_cons_succ, ne_eq, reduceCtorEq, not_false_eq_true, true_and, List.set_cons_zero, List.set_cons_succ, Option.some.injEq, exists_eq_left', if_true, if_false, Bool.false_eq_true, Bool.not_true, Bool.not_false, i_none_str, i_none_int, i_none_bool, i_none_tuple, i_none_list, i_bool_str, i_bool_int, i_bool_bool, i_bool_tuple, i_bool_list, i_int_str, i_int_int, i_int_bool, i_int_tuple, i_int_list, i_str_str, i_str_int, i_str_bool, i_str_tuple, i_str_list, i_tup_str, i_tup_int, i_tup_bool, i_tup_tuple, i_tup_list, r_range2, r_lent, r_tuple1, r_int1, r_neg, List.replicate_succ, List.replicate_zero, List.cons_append, List.nil_append, List.length_cons, List.length_nil, T.str, T.int]
      refine st_if ?_
      simp only [wpE, wpL, wpB, wpO, r_add, r_sub, r_mul, r_mod, r_fdiv, r_adds, r_eqi, r_eqs, r_nei, r_nes, r_lt, r_le, r_gt, r_ge, r_is, r_isnot, r_isb, r_truth, r_idxs, r_idxl, r_slc, r_lens, r_lenr, r_lenl, r_inst, r_range, r_starts, r_starts', r_append, r_append', n_none, n_int, n_str, n_tup, n_ref, n_bool, isBool, List.getD_cons_zero, List.getD_cons_succ, ne_eq, reduceCtorEq, not_false_eq_true, true_and, List.set_cons_zero, List.set_cons_succ, Option.some.injEq, exists_eq_left', if_true, if_false, Bool.false_eq_true, Bool.not_true, Bool.not_false, i_none_str, i_none_int, i_none_bool, i_none_tuple, i_none_list, i_bool_str, i_bool_int, i_bool_bool, i_bool_tuple, i_bool_list, i_int_str, i_int_int, i_int_bool, i_int_tuple, i_int_list, i_str_str, i_str_int, i_str_bool, i_str_tuple, i_str_list, i_tup_str, i_tup_int, i_tup_bool, i_tup_tuple, i_tup_list, r_range2, r_lent, r_tuple1, r_int1, r_neg, List.replicate_succ, List.replicate_zero, List.cons_append, List.nil_append, List.length_cons, List.length_nil, T.str, T.int]
      refine st_if ?_
      simp only [wpE, wpL, wpB, wpO, r_add, r_sub, r_mul, r_mod, r_fdiv, r_adds, r_eqi, r_eqs, r_nei, r_nes, r_lt, r_le, r_gt, r_ge, r_is, r_isnot, r_isb, r_truth, r_idxs, r_idxl, r_slc, r_lens, r_lenr, r_lenl, r_inst, r_range, r_starts, r_starts', r_append, r_append', n_none, n_int, n_str, n_tup, n_ref, n_bool, isBool, List.getD_cons_zero, List.getD_cons_succ, ne_eq, reduceCtorEq, not_false_eq_true, true_and, List.set_cons_zero, List.set_cons_succ, Option.some.injEq, exists_eq_left', if_true, if_false, Bool.false_eq_true, Bool.not_true, Bool.not_false, i_none_str, i_none_int, i_none_bool, i_none_tuple, i_none_list, i_bool_str, i_bool_int, i_bool_bool, i_bool_tuple, i_bool_list, i_int_str, i_int_int, i_int_bool, i_int_tuple, i_int_list, i_str_str, i_str_int, i_str_bool, i_str_tuple, i_str_list, i_tup_str, i_tup_int, i_tup_bool, i_tup_tuple, i_tup_list, r_range2, r_lent, r_tuple1, r_int1, r_neg, List.replicate_succ, List.replicate_zero, List.cons_append, List.nil_append, List.length_cons, List.length_nil, T.tuple, T.list]
      refine st_if ?_
      simp only [wpE, wpL, wpB, wpO, r_add, r_sub, r_mul, r_mod, r_fdiv, r_adds, r_eqi, r_eqs, r_nei, r_nes, r_lt, r_le, r_gt, r_ge, r_is, r_isnot, r_isb, r_truth, r_idxs, r_idxl, r_slc, r_lens, r_lenr, r_lenl, r_inst, r_range, r_starts, r_starts', r_append, r_append', n_none, n_int, n_str, n_tup, n_ref, n_bool, isBool, List.getD_cons_zero, List.getD_cons_succ, ne_eq, reduceCtorEq, not_false_eq_true, true_and, List.set_cons_zero, List.set_cons_succ, Option.some.injEq, exists_eq_left', if_true, if_false, Bool.false_eq_true, Bool.not_true, Bool.not_false, i_none_str, i_none_int, i_none_bool, i_none_tuple, i_none_list, i_bool_str, i_bool_int, i_bool_bool, i_bool_tuple, i_bool_list, i_int_str, i_int_int, i_int_bool, i_int_tuple, i_int_list, i_str_str, i_str_int, i_str_bool, i_str_tuple, i_str_list, i_tup_str, i_tup_int, i_tup_bool, i_tup_tuple, i_tup_list, r_range2, r_lent, r_tuple1, r_int1, r_neg, List.replicate_succ, List.replicate_zero, List.cons_append, List.nil_append, List.length_cons, List.length_nil, T.tuple, T.list]
      refine st_if ?_
      simp only [wpE, wpL, wpB, wpO, r_add, r_sub, r_mul, r_mod, r_fdiv, r_adds, r_eqi, r_eqs, r_nei, r_nes, r_lt, r_le, r_gt, r_ge, r_is, r_isnot, r_isb, r_truth, r_idxs, r_idxl, r_slc, r_lens, r_lenr, r_lenl, r_inst, r_range, r_starts, r_starts', r_append, r_append', n_none, n_int, n_str, n_tup, n_ref, n_bool, isBool, List.getD_cons_zero, List.getD_cons_succ, ne_eq, reduceCtorEq, not_false_eq_true, true_and, List.set_cons_zero, List.set_cons_succ, Option.some.injEq, exists_eq_left', if_true, if_false, Bool.false_eq_true, Bool.not_true, Bool.not_false, i_none_str, i_none_int, i_none_bool, i_none_tuple, i_none_list, i_bool_str, i_bool_int, i_bool_bool, i_bool_tuple, i_bool_list, i_int_str, i_int_int, i_int_bool, i_int_tuple, i_int_list, i_str_str, i_str_int, i_str_bool, i_str_tuple, i_str_list, i_tup_str, i_tup_int, i_tup_bool, i_tup_tuple, i_tup_list, r_range2, r_lent, r_tuple1, r_int1, r_neg, List.replicate_succ, List.replicate_zero, List.cons_append, List.nil_append, List.length_cons, List.length_nil, hl]
      refine ⟨by omega, by omega, ?_⟩
      rw [if_neg (by simp)]
      refine st_for1 hh ?_
      simp only [wpE, wpL, wpB, wpO, r_add, r_sub, r_mul, r_mod, r_fdiv, r_adds, r_eqi, r_eqs, r_nei, r_nes, r_lt, r_le, r_gt, r_ge, r_is, r_isnot, r_isb, r_truth, r_idxs, r_idxl, r_slc, r_lens, r_lenr, r_lenl, r_inst, r_range, r_starts, r_starts', r_append, r_append', n_none, n_int, n_str, n_tup, n_ref, n_bool, isBool, List.getD_cons_zero, List.getD_cons_succ, ne_eq, reduceCtorEq, not_false_eq_true, true_and, List.set_cons_zero, List.set_cons_succ, Option.some.injEq, exists_eq_left', if_true, if_false, Bool.false_eq_true, Bool.not_true, Bool.not_false, i_none_str, i_none_int, i_none_bool, i_none_tuple, i_none_list, i_bool_str, i_bool_int, i_bool_bool, i_bool_tuple, i_bool_list, i_int_str, i_int_int, i_int_bool, i_int_tuple, i_int_list, i_str_str, i_str_int, i_str_bool, i_str_tuple, i_str_list, i_tup_str, i_tup_int, i_tup_bool, i_tup_tuple, i_tup_list, r_range2, r_lent, r_tuple1, r_int1, r_neg, List.replicate_succ, List.replicate_zero, List.cons_append, List.nil_append, List.length_cons, List.length_nil]
      refine ⟨by omega, by omega, by omega, _, rfl, for_intro (fun i ρ σ' => σ' = σ ∧ ∃ kv, ρ = [.tup xs, .tup ys, kv]) ⟨rfl, .unb, rfl⟩ ?_ ?_⟩
      · rintro i ρ σ₁ v hx ⟨rfl, kv, rfl⟩
        obtain ⟨hi, rfl⟩ := rng_get hx
        refine ⟨rfl, _, rfl, st_if ?_⟩
        simp only [wpE, wpL, wpB, wpO, r_add, r_sub, r_mul, r_mod, r_fdiv, r_adds, r_eqi, r_eqs, r_nei, r_nes, r_lt, r_le, r_gt, r_ge, r_is, r_isnot, r_isb, r_truth, r_idxs, r_idxl, r_slc, r_lens, r_lenr, r_lenl, r_inst, r_range, r_starts, r_starts', r_append, r_append', n_none, n_int, n_str, n_tup, n_ref, n_bool, isBool, List.getD_cons_zero, List.getD_cons_succ, ne_eq, reduceCtorEq, not_false_eq_true, true_and, List.set_cons_zero, List.set_cons_succ, Option.some.injEq, exists_eq_left', if_true, if_false, Bool.false_eq_true, Bool.not_true, Bool.not_false, i_none_str, i_none_int, i_none_bool, i_none_tuple, i_none_list, i_bool_str, i_bool_int, i_bool_bool, i_bool_tuple, i_bool_list, i_int_str, i_int_int, i_int_bool, i_int_tuple, i_int_list, i_str_str, i_str_int, i_str_bool, i_str_tuple, i_str_list, i_tup_str, i_tup_int, i_tup_bool, i_tup_tuple, i_tup_list, r_range2, r_lent, r_tuple1, r_int1, r_neg, List.replicate_succ, List.replicate_zero, List.cons_append, List.nil_append, List.length_cons, List.length_nil]
        have h1 : xs[i]? = some xs[i] := List.getElem?_eq_getElem (by omega)
        have h2 : ys[i]? = some ys[i] := List.getElem?_eq_getElem (by omega)
        refine ⟨FA.1, idx_tup h1 (by omega) (idx_tup h2 (by omega) (ih (hr i _ _ h1 h2) (by show n + 1 ≤ m.d - 1; omega) hh ?_))⟩
        simp only [wpE, wpL, wpB, wpO, r_add, r_sub, r_mul, r_mod, r_fdiv, r_adds, r_eqi, r_eqs, r_nei, r_nes, r_lt, r_le, r_gt, r_ge, r_is, r_isnot, r_isb, r_truth, r_idxs, r_idxl, r_slc, r_lens, r_lenr, r_lenl, r_inst, r_range, r_starts, r_starts', r_append, r_append', n_none, n_int, n_str, n_tup, n_ref, n_bool, isBool, List.getD_cons_zero, List.getD_cons_succ, ne_eq, reduceCtorEq, not_false_eq_true, true_and, List.set_cons_zero, List.set_cons_succ, Option.some.injEq, exists_eq_left', if_true, if_false, Bool.false_eq_true, Bool.not_true, Bool.not_false, i_none_str, i_none_int, i_none_bool, i_none_tuple, i_none_list, i_bool_str, i_bool_int, i_bool_bool, i_bool_tuple, i_bool_list, i_int_str, i_int_int, i_int_bool, i_int_tuple, i_int_list, i_str_str, i_str_int, i_str_bool, i_str_tuple, i_str_list, i_tup_str, i_tup_int, i_tup_bool, i_tup_tuple, i_tup_list, r_range2, r_lent, r_tuple1, r_int1, r_neg, List.replicate_succ, List.replicate_zero, List.cons_append, List.nil_append, List.length_cons, List.length_nil]
        exact st_nil ⟨rfl, _, rfl⟩
      · rintro ρ σ₁ ⟨rfl, kv, rfl⟩
        refine ⟨rfl, st_ret ?_⟩
        simp only [wpE, wpL, wpB, wpO, r_add, r_sub, r_mul, r_mod, r_fdiv, r_adds, r_eqi, r_eqs, r_nei, r_nes, r_lt, r_le, r_gt, r_ge, r_is, r_isnot, r_isb, r_truth, r_idxs, r_idxl, r_slc, r_lens, r_lenr, r_lenl, r_inst, r_range, r_starts, r_starts', r_append, r_append', n_none, n_int, n_str, n_tup, n_ref, n_bool, isBool, List.getD_cons_zero, List.getD_cons_succ, ne_eq, reduceCtorEq, not_false_eq_true, true_and, List.set_cons_zero, List.set_cons_succ, Option.some.injEq, exists_eq_left', if_true, if_false, Bool.false_eq_true, Bool.not_true, Bool.not_false, i_none_str, i_none_int, i_none_bool, i_none_tuple, i_none_list, i_bool_str, i_bool_int, i_bool_bool, i_bool_tuple, i_bool_list, i_int_str, i_int_int, i_int_bool, i_int_tuple, i_int_list, i_str_str, i_str_int, i_str_bool, i_str_tuple, i_str_list, i_tup_str, i_tup_int, i_tup_bool, i_tup_tuple, i_tup_list, r_range2, r_lent, r_tuple1, r_int1, r_neg, List.replicate_succ, List.replicate_zero, List.cons_append, List.nil_append, List.length_cons, List.length_nil]
        exact q
    | @list _ a b xs ys hx hy hl hz hr =>
      simp only [wpE, wpL, wpB, wpO, r_add, r_sub, r_mul, r_mod, r_fdiv, r_adds, r_eqi, r_eqs, r_nei, r_nes, r_lt, r_le, r_gt, r_ge, r_is, r_isnot, r_isb, r_truth, r_idxs, r_idxl, r_slc, r_lens, r_lenr, r_lenl, r_inst, r_range, r_starts, r_starts', r_append, r_append', n_none, n_int, n_str, n_tup, n_ref, n_bool, isBool, List.getD_cons_zero, List.getD_cons_succ, ne_eq, reduceCtorEq, not_false_eq_true, true_and, List.set_cons_zero, List.set_cons_succ, Option.some.injEq, exists_eq_left', if_true, if_false, Bool.false_eq_true, Bool.not_true, Bool.not_false, i_none_str, i_none_int, i_none_bool, i_none_tuple, i_none_list, i_bool_str, i_bool_int, i_bool_bool, i_bool_tuple, i_bool_list, i_int_str, i_int_int, i_int_bool, i_int_tuple, i_int_list, i_str_str, i_str_int, i_str_bool, i_str_tuple, i_str_list, i_tup_str, i_tup_int, i_tup_bool, i_tup_tuple, i_tup_list, r_range2, r_lent, r_tuple1, r_int1, r_neg, List.replicate_succ, List.replicate_zero, List.cons_append, List.nil_append, List.length_cons, List.length_nil]
      refine st_if ?_
      simp only [wpE, wpL, wpB, wpO, r_add, r_sub, r_mul, r_mod, r_fdiv, r_adds, r_eqi, r_eqs, r_nei, r_nes, r_lt, r_le, r_gt, r_ge, r_is, r_isnot, r_isb, r_truth, r_idxs, r_idxl, r_slc, r_lens, r_lenr, r_lenl, r_inst, r_range, r_starts, r_starts', r_append, r_append', n_none, n_int, n_str, n_tup, n_ref, n_bool, isBool, List.getD_cons_zero, List.getD_cons_succ, ne_eq, reduceCtorEq, not_false_eq_true, true_and, List.set_cons_zero, List.set_cons_succ, Option.some.injEq, exists_eq_left', if_true, if_false, Bool.false_eq_true, Bool.not_true, Bool.not_false, i_none_str, i_none_int, i_none_bool, i_none_tuple, i_none_list, i_bool_str, i_bool_int, i_bool_bool, i_bool_tuple, i_bool_list, i_int_str, i_int_int, i_int_bool, i_int_tuple, i_int_list, i_str_str, i_str_int, i_str_bool, i_str_tuple, i_str_list, i_tup_str, i_tup_int, i_tup_bool, i_tup_tuple, i_tup_list, r_range2, r_lent, r_tuple1, r_int1, r_neg, List.replicate_succ, List.replicate_zero, List.cons_append, List.nil_append, List.length_cons, List.length_nil, T.str, T.int, i_ref_str hy]
      refine st_if ?_
      simp only [wpE, wpL, wpB, wpO, r_add, r_sub, r_mul, r_mod, r_fdiv, r_adds, r_eqi, r_eqs, r_nei, r_nes, r_lt, r_le, r_gt, r_ge, r_is, r_isnot, r_isb, r_truth, r_idxs, r_idxl, r_slc, r_lens, r_lenr, r_lenl, r_inst, r_range, r_starts, r_starts', r_append, r_append', n_none, n_int, n_str, n_tup, n_ref, n_bool, isBool, List.getD_cons_zero, List.getD_cons_succ, ne_eq, reduceCtorEq, not_false_eq_true, true_and, List.set_cons_zero, List.set_cons_succ, Option.some.injEq, exists_eq_left', if_true, if_false, Bool.false_eq_true, Bool.not_true, Bool.not_false, i_none_str, i_none_int, i_none_bool, i_none_tuple, i_none_list, i_bool_str, i_bool_int, i_bool_bool, i_bool_tuple, i_bool_list, i_int_str, i_int_int, i_int_bool, i_int_tuple, i_int_list, i_str_str, i_str_int, i_str_bool, i_str_tuple, i_str_list, i_tup_str, i_tup_int, i_tup_bool, i_tup_tuple, i_tup_list, r_range2, r_lent, r_tuple1, r_int1, r_neg, List.replicate_succ, List.replicate_zero, List.cons_append, List.nil_append, List.length_cons, List.length_nil, T.str, T.int, i_ref_int hy]
      refine st_if ?_
      simp only [wpE, wpL, wpB, wpO, r_add, r_sub, r_mul, r_mod, r_fdiv, r_adds, r_eqi, r_eqs, r_nei, r_nes, r_lt, r_le, r_gt, r_ge, r_is, r_isnot, r_isb, r_truth, r_idxs, r_idxl, r_slc, r_lens, r_lenr, r_lenl, r_inst, r_range, r_starts, r_starts', r_append, r_append', n_none, n_int, n_str, n_tup, n_ref, n_bool, isBool, List.getD_cons_zero, List.getD_cons_succ, ne_eq, reduceCtorEq, not_false_eq_true, true_and, List.set_cons_zero, List.set_cons_succ, Option.some.injEq, exists_eq_left', if_true, if_false, Bool.false_eq_true, Bool.not_true, Bool.not_false, i_none_str, i_none_int, i_none_bool, i_none_tuple, i_none_list, i_bool_str, i_bool_int, i_bool_bool, i_bool_tuple, i_bool_list, i_int_str, i_int_int, i_int_bool, i_int_tuple, i_int_list, i_str_str, i_str_int, i_str_bool, i_str_tuple, i_str_list, i_tup_str, i_tup_int, i_tup_bool, i_tup_tuple, i_tup_list, r_range2, r_lent, r_tuple1, r_int1, r_neg, List.replicate_succ, List.replicate_zero, List.cons_append, List.nil_append, List.length_cons, List.length_nil, T.tuple, T.list, i_ref_tuple hy]
      refine st_if ?_
      simp only [wpE, wpL, wpB, wpO, r_add, r_sub, r_mul, r_mod, r_fdiv, r_adds, r_eqi, r_eqs, r_nei, r_nes, r_lt, r_le, r_gt, r_ge, r_is, r_isnot, r_isb, r_truth, r_idxs, r_idxl, r_slc, r_lens, r_lenr, r_lenl, r_inst, r_range, r_starts, r_starts', r_append, r_append', n_none, n_int, n_str, n_tup, n_ref, n_bool, isBool, List.getD_cons_zero, List.getD_cons_succ, ne_eq, reduceCtorEq, not_false_eq_true, true_and, List.set_cons_zero, List.set_cons_succ, Option.some.injEq, exists_eq_left', if_true, if_false, Bool.false_eq_true, Bool.not_true, Bool.not_false, i_none_str, i_none_int, i_none_bool, i_none_tuple, i_none_list, i_bool_str, i_bool_int, i_bool_bool, i_bool_tuple, i_bool_list, i_int_str, i_int_int, i_int_bool, i_int_tuple, i_int_list, i_str_str, i_str_int, i_str_bool, i_str_tuple, i_str_list, i_tup_str, i_tup_int, i_tup_bool, i_tup_tuple, i_tup_list, r_range2, r_lent, r_tuple1, r_int1, r_neg, List.replicate_succ, List.replicate_zero, List.cons_append, List.nil_append, List.length_cons, List.length_nil, T.tuple, T.list, i_ref_list hy, i_ref_list hx]
      refine st_if ?_
      simp only [wpE, wpL, wpB, wpO, r_add, r_sub, r_mul, r_mod, r_fdiv, r_adds, r_eqi, r_eqs, r_nei, r_nes, r_lt, r_le, r_gt, r_ge, r_is, r_isnot, r_isb, r_truth, r_idxs, r_idxl, r_slc, r_lens, r_lenr, r_lenl, r_inst, r_range, r_starts, r_starts', r_append, r_append', n_none, n_int, n_str, n_tup, n_ref, n_bool, isBool, List.getD_cons_zero, List.getD_cons_succ, ne_eq, reduceCtorEq, not_false_eq_true, true_and, List.set_cons_zero, List.set_cons_succ, Option.some.injEq, exists_eq_left', if_true, if_false, Bool.false_eq_true, Bool.not_true, Bool.not_false, i_none_str, i_none_int, i_none_bool, i_none_tuple, i_none_list, i_bool_str, i_bool_int, i_bool_bool, i_bool_tuple, i_bool_list, i_int_str, i_int_int, i_int_bool, i_int_tuple, i_int_list, i_str_str, i_str_int, i_str_bool, i_str_tuple, i_str_list, i_tup_str, i_tup_int, i_tup_bool, i_tup_tuple, i_tup_list, r_range2, r_lent, r_tuple1, r_int1, r_neg, List.replicate_succ, List.replicate_zero, List.cons_append, List.nil_append, List.length_cons, List.length_nil, hx, hy, Cell.list.injEq]
      refine ⟨by omega, by omega, ?_⟩
      rw [if_neg (by simp [hl])]
      refine st_for1 hh ?_
      simp only [wpE, wpL, wpB, wpO, r_add, r_sub, r_mul, r_mod, r_fdiv, r_adds, r_eqi, r_eqs, r_nei, r_nes, r_lt, r_le, r_gt, r_ge, r_is, r_isnot, r_isb, r_truth, r_idxs, r_idxl, r_slc, r_lens, r_lenr, r_lenl, r_inst, r_range, r_starts, r_starts', r_append, r_append', n_none, n_int, n_str, n_tup, n_ref, n_bool, isBool, List.getD_cons_zero, List.getD_cons_succ, ne_eq, reduceCtorEq, not_false_eq_true, true_and, List.set_cons_zero, List.set_cons_succ, Option.some.injEq, exists_eq_left', if_true, if_false, Bool.false_eq_true, Bool.not_true, Bool.not_false, i_none_str, i_none_int, i_none_bool, i_none_tuple, i_none_list, i_bool_str, i_bool_int, i_bool_bool, i_bool_tuple, i_bool_list, i_int_str, i_int_int, i_int_bool, i_int_tuple, i_int_list, i_str_str, i_str_int, i_str_bool, i_str_tuple, i_str_list, i_tup_str, i_tup_int, i_tup_bool, i_tup_tuple, i_tup_list, r_range2, r_lent, r_tuple1, r_int1, r_neg, List.replicate_succ, List.replicate_zero, List.cons_append, List.nil_append, List.length_cons, List.length_nil, hx, hy, Cell.list.injEq]
      refine ⟨by omega, by omega, by omega, _, rfl, for_intro (fun i ρ σ' => σ' = σ ∧ ∃ kv, ρ = [.ref a, .ref b, kv]) ⟨rfl, .unb, rfl⟩ ?_ ?_⟩
      · rintro i ρ σ₁ v hx' ⟨rfl, kv, rfl⟩
        obtain ⟨hi, rfl⟩ := rng_get hx'
        refine ⟨rfl, _, rfl, st_if ?_⟩
        simp only [wpE, wpL, wpB, wpO, r_add, r_sub, r_mul, r_mod, r_fdiv, r_adds, r_eqi, r_eqs, r_nei, r_nes, r_lt, r_le, r_gt, r_ge, r_is, r_isnot, r_isb, r_truth, r_idxs, r_idxl, r_slc, r_lens, r_lenr, r_lenl, r_inst, r_range, r_starts, r_starts', r_append, r_append', n_none, n_int, n_str, n_tup, n_ref, n_bool, isBool, List.getD_cons_zero, List.getD_cons_succ, ne_eq, reduceCtorEq, not_false_eq_true, true_and, List.set_cons_zero, List.set_cons_succ, Option.some.injEq, exists_eq_left', if_true, if_false, Bool.false_eq_true, Bool.not_true, Bool.not_false, i_none_str, i_none_int, i_none_bool, i_none_tuple, i_none_list, i_bool_str, i_bool_int, i_bool_bool, i_bool_tuple, i_bool_list, i_int_str, i_int_int, i_int_bool, i_int_tuple, i_int_list, i_str_str, i_str_int, i_str_bool, i_str_tuple, i_str_list, i_tup_str, i_tup_int, i_tup_bool, i_tup_tuple, i_tup_list, r_range2, r_lent, r_tuple1, r_int1, r_neg, List.replicate_succ, List.replicate_zero, List.cons_append, List.nil_append, List.length_cons, List.length_nil]
        have h1 : xs[i]? = some xs[i] := List.getElem?_eq_getElem (by omega)
        have h2 : ys[i]? = some ys[i] := List.getElem?_eq_getElem (by omega)
        refine ⟨FA.1, idx_ref hx h1 (by omega) (idx_ref hy h2 (by omega) (ih (hr i _ _ h1 h2) (by show n + 1 ≤ m.d - 1; omega) hh ?_))⟩
        simp only [wpE, wpL, wpB, wpO, r_add, r_sub, r_mul, r_mod, r_fdiv, r_adds, r_eqi, r_eqs, r_nei, r_nes, r_lt, r_le, r_gt, r_ge, r_is, r_isnot, r_isb, r_truth, r_idxs, r_idxl, r_slc, r_lens, r_lenr, r_lenl, r_inst, r_range, r_starts, r_starts', r_append, r_append', n_none, n_int, n_str, n_tup, n_ref, n_bool, isBool, List.getD_cons_zero, List.getD_cons_succ, ne_eq, reduceCtorEq, not_false_eq_true, true_and, List.set_cons_zero, List.set_cons_succ, Option.some.injEq, exists_eq_left', if_true, if_false, Bool.false_eq_true, Bool.not_true, Bool.not_false, i_none_str, i_none_int, i_none_bool, i_none_tuple, i_none_list, i_bool_str, i_bool_int, i_bool_bool, i_bool_tuple, i_bool_list, i_int_str, i_int_int, i_int_bool, i_int_tuple, i_int_list, i_str_str, i_str_int, i_str_bool, i_str_tuple, i_str_list, i_tup_str, i_tup_int, i_tup_bool, i_tup_tuple, i_tup_list, r_range2, r_lent, r_tuple1, r_int1, r_neg, List.replicate_succ, List.replicate_zero, List.cons_append, List.nil_append, List.length_cons, List.length_nil]
        exact st_nil ⟨rfl, _, rfl⟩
      · rintro ρ σ₁ ⟨rfl, kv, rfl⟩
        refine ⟨rfl, st_ret ?_⟩
        simp only [wpE, wpL, wpB, wpO, r_add, r_sub, r_mul, r_mod, r_fdiv, r_adds, r_eqi, r_eqs, r_nei, r_nes, r_lt, r_le, r_gt, r_ge, r_is, r_isnot, r_isb, r_truth, r_idxs, r_idxl, r_slc, r_lens, r_lenr, r_lenl, r_inst, r_range, r_starts, r_starts', r_append, r_append', n_none, n_int, n_str, n_tup, n_ref, n_bool, isBool, List.getD_cons_zero, List.getD_cons_succ, ne_eq, reduceCtorEq, not_false_eq_true, true_and, List.set_cons_zero, List.set_cons_succ, Option.some.injEq, exists_eq_left', if_true, if_false, Bool.false_eq_true, Bool.not_true, Bool.not_false, i_none_str, i_none_int, i_none_bool, i_none_tuple, i_none_list, i_bool_str, i_bool_int, i_bool_bool, i_bool_tuple, i_bool_list, i_int_str, i_int_int, i_int_bool, i_int_tuple, i_int_list, i_str_str, i_str_int, i_str_bool, i_str_tuple, i_str_list, i_tup_str, i_tup_int, i_tup_bool, i_tup_tuple, i_tup_list, r_range2, r_lent, r_tuple1, r_int1, r_neg, List.replicate_succ, List.replicate_zero, List.cons_append, List.nil_append, List.length_cons, List.length_nil]
        exact q
end
end Mine

set_option autoImplicit false
set_option linter.unusedSimpArgs false
set_option maxRecDepth 100000
namespace Mine
open PySem PySem.W PyProof.Rows
def F_ahead : Fn := ⟨["tree", "beginning"], [], [
  .ite (.cmp (.var 0) .Is .cNone) [
    .ret .cNone] [],
  .ite (.cmp (.idx (.var 0) (.cInt 0)) .Eq (.cStr (lit "leaf"))) [
    .ret (.tuple [(.cStr (lit "leaf")), (.bin .Add (.var 1) (.idx (.var 0) (.cInt 1))), (.idx (.var 0) (.cInt 2))])] [],
  .ret (.tuple [(.cStr (lit "fork")), (.bin .Add (.var 1) (.idx (.var 0) (.cInt 1))), (.idx (.var 0) (.cInt 2))])]⟩
def F_law_knot : Fn := ⟨["_law_script"], ["_law_word", "_law_number", "_law_way", "_law_leaves", "_law_k"], [
  .asg 1 (.callF "_law_word_by" [(.callF "_law_cell_at" [(.var 0), (.cInt 1)]), (.bin .Mod (.callF "_law_cell_at" [(.var 0), (.cInt 2)]) (.cInt 7))]),
  .asg 2 (.callF "_law_number_by" [(.callF "_law_cell_at" [(.var 0), (.cInt 3)])]),
  .asg 3 (.bin .Mod (.callF "_law_cell_at" [(.var 0), (.cInt 0)]) (.cInt 6)),
  .ite (.cmp (.var 3) .Eq (.cInt 0)) [
    .ret .cNone] [],
  .ite (.cmp (.var 3) .Eq (.cInt 1)) [
    .ret (.tuple [(.cStr (lit "leaf")), (.var 1), (.var 2)])] [],
  .asg 4 (.list [(.tuple [(.cStr (lit "")), (.tuple [(.cStr (lit "leaf")), (.cStr (lit "")), (.var 2)])])]),
  .for1 5 (.callB .range2 [(.cInt 1), (.var 3)]) [
    .expr (.meth (.var 4) .append [(.tuple [(.idx (.list [(.cStr (lit "a")), (.cStr (lit "b")), (.cStr (lit "c")), (.cStr (lit "d"))]) (.bin .Sub (.var 5) (.cInt 1))), (.tuple [(.cStr (lit "leaf")), (.var 1), (.callF "_law_number_by" [(.callF "_law_cell_at" [(.var 0), (.bin .Add (.cInt 3) (.var 5))])])])])])],
  .ret (.tuple [(.cStr (lit "fork")), (.var 1), (.callB .tuple1 [(.var 4)])])]⟩
def F_law : Fn := ⟨["_law_script"], ["_law_tree", "_law_size", "_law_start", "_law_told"], [
  .asg 1 (.callF "_law_knot" [(.var 0)]),
  .asg 2 (.idx (.list [(.bin .Mod (.bin .FloorDiv (.callF "_law_cell_at" [(.var 0), (.cInt 4)]) (.cInt 4)) (.cInt 7)), (.cInt 30)]) (.callB .int1 [(.cmp (.bin .Mod (.callF "_law_cell_at" [(.var 0), (.cInt 4)]) (.cInt 4)) .Eq (.cInt 3))])),
  .asg 3 (.callF "_law_word_by" [(.callF "_law_cell_at" [(.var 0), (.cInt 5)]), (.var 2)]),
  .asg 4 (.callF "ahead" [(.var 1), (.var 3)]),
  .ite (.cmp (.var 1) .Is .cNone) [
    .ret (.cmp (.var 4) .Is .cNone)] [],
  .ret (.bop true [(.callF "_law_alike" [(.var 4), (.tuple [(.idx (.var 1) (.cInt 0)), (.bin .Add (.var 3) (.idx (.var 1) (.cInt 1))), (.idx (.var 1) (.cInt 2))])]), (.callF "_law_alike" [(.var 1), (.callF "_law_knot" [(.var 0)])])])]⟩
def fns : List (Str × Fn) := [("ahead", F_ahead), ("_law_cell_at", F_law_cell_at), ("_law_whole", F_law_whole), ("_law_sign_by", F_law_sign_by), ("_law_word_by", F_law_word_by), ("_law_number_by", F_law_number_by), ("_law_alike", F_law_alike), ("_law_knot", F_law_knot), ("law", F_law)]

section
variable {G : Gl} {m : Md} {σ : Hp} {X : Value → Hp → Prop} {Q : V → Hp → Prop}
structure C03 (G : Gl) : Prop where
  ok : G.Ok
  ahead : IsFn G "ahead" ∧ FnAt G (.ref (G.fn "ahead")) F_ahead
  cell : IsFn G "_law_cell_at" ∧ FnAt G (.ref (G.fn "_law_cell_at")) F_law_cell_at
  whole : IsFn G "_law_whole" ∧ FnAt G (.ref (G.fn "_law_whole")) F_law_whole
  sign : IsFn G "_law_sign_by" ∧ FnAt G (.ref (G.fn "_law_sign_by")) F_law_sign_by
  word : IsFn G "_law_word_by" ∧ FnAt G (.ref (G.fn "_law_word_by")) F_law_word_by
  number : IsFn G "_law_number_by" ∧ FnAt G (.ref (G.fn "_law_number_by")) F_law_number_by
  alike : IsFn G "_law_alike" ∧ FnAt G (.ref (G.fn "_law_alike")) F_law_alike
  knot : IsFn G "_law_knot" ∧ FnAt G (.ref (G.fn "_law_knot")) F_law_knot
  ty : TyGl G

def branchV (zs : List Int) (w : List Nat) (j : Nat) : V := .tup [.str [97 + j], .tup [.str (lit "leaf"), .str w, .int (numBy (zs.getD (4 + j) 0))]]
def leavesV (zs : List Int) (w : List Nat) (n : Int) (k : Nat) : List V := .tup [.str [], .tup [.str (lit "leaf"), .str [], .int n]] :: (List.range k).map (branchV zs w)
def knotW (zs : List Int) : List Nat := wordBy (zs.getD 1 0) (zs.getD 2 0 % 7).toNat
def knotV (zs : List Int) : V :=
  if zs.getD 0 0 % 6 = 0 then .none else if zs.getD 0 0 % 6 = 1 then .tup [.str (lit "leaf"), .str (knotW zs), .int (numBy (zs.getD 3 0))]
  else .tup [.str (lit "fork"), .str (knotW zs), .tup (leavesV zs (knotW zs) (numBy (zs.getD 3 0)) (zs.getD 0 0 % 6 - 1).toNat)]

theorem leaf_pl (w : List Nat) (i : Int) : Pl 2 (.tup [.str (lit "leaf"), .str w, .int i]) := .tup _ (show 3 ≤ sizeLine by decide) (by simp; exact ⟨.str _ _, .str _ _, .int _ _⟩)
theorem leaves_pl (zs : List Int) (w : List Nat) (n : Int) (k : Nat) (hk : k ≤ 10) : Pl 4 (.tup (leavesV zs w n k)) := by
  refine .tup _ (by simp [leavesV]; have : sizeLine = 16777216 := rfl; omega) fun x hx => ?_
  rcases List.mem_cons.mp hx with rfl | hx
  · exact .tup _ (show 2 ≤ sizeLine by decide) (by simp; exact ⟨.str _ _, leaf_pl _ _⟩)
  · obtain ⟨j, _, rfl⟩ := List.mem_map.mp hx
    exact .tup _ (show 2 ≤ sizeLine by decide) (by simp; exact ⟨.str _ _, leaf_pl _ _⟩)
def KnOk (t : V) : Prop := t = .none ∨ ∃ k w v, t = .tup [.str k, .str w, v] ∧ (k = lit "leaf" ∨ k = lit "fork") ∧ w.length ≤ 6 ∧ Pl 4 v
theorem knotW_len (zs : List Int) : (knotW zs).length ≤ 6 := by unfold knotW; rw [wordBy_len]; omega
theorem knot_ok (zs : List Int) : KnOk (knotV zs) := by
  unfold knotV KnOk
  split
  · exact .inl rfl
  · split
    · exact .inr ⟨_, _, _, rfl, .inl rfl, knotW_len zs, .int _ _⟩
    · exact .inr ⟨_, _, _, rfl, .inr rfl, knotW_len zs, leaves_pl _ _ _ _ (by omega)⟩
theorem c_ahead (GO : G.Ok) (FA : FnAt G (.ref (G.fn "ahead")) F_ahead) {k w b : List Nat} {v : V} (hk : k = lit "leaf" ∨ k = lit "fork") (hw : w.length ≤ 100) (hb : b.length ≤ 100) (hd : 0 < m.d) (h : Q (.tup [.str k, .str (b ++ w), v]) σ) :
    CallF G m "ahead" [.tup [.str k, .str w, v], .str b] σ Q X := by
  have hS : sizeLine = 16777216 := rfl
  have i0 : ∀ {Q : V → Hp → Prop} {σ : Hp}, Q (.str k) σ → idxP (.tup [.str k, .str w, v]) (.int 0) σ Q := fun q => idx_tup (k := 0) rfl (by show 3 < 2 ^ 62; decide) q
  have i1 : ∀ {Q : V → Hp → Prop} {σ : Hp}, Q (.str w) σ → idxP (.tup [.str k, .str w, v]) (.int 1) σ Q := fun q => idx_tup (k := 1) rfl (by show 3 < 2 ^ 62; decide) q
  have i2 : ∀ {Q : V → Hp → Prop} {σ : Hp}, Q v σ → idxP (.tup [.str k, .str w, v]) (.int 2) σ Q := fun q => idx_tup (k := 2) rfl (by show 3 < 2 ^ 62; decide) q
  refine call_of 0 GO FA rfl rfl hd (st_if ?_)
  simp only [wpE, wpL, wpB, wpO, r_add, r_sub, r_mul, r_mod, r_fdiv, r_adds, r_eqi, r_eqs, r_nei, r_nes, r_lt, r_le, r_gt, r_ge, r_is, r_isnot, r_isb, r_truth, r_idxs, r_idxl, r_slc, r_lens, r_lenr, r_lenl, r_inst, r_range, r_starts, r_starts', r_append, r_append', n_none, n_int, n_str, n_tup, n_ref, n_bool, isBool, List.getD_cons_zero, List.getD_cons_succ, ne_eq, reduceCtorEq, not_false_eq_true, true_and, List.set_cons_zero, List.set_cons_succ, Option.some.injEq, exists_eq_left', if_true, if_false, Bool.false_eq_true, Bool.not_true, Bool.not_false, i_none_str, i_none_int, i_none_bool, i_none_tuple, i_none_list, i_bool_str, i_bool_int, i_bool_bool, i_bool_tuple, i_bool_list, i_int_str, i_int_int, i_int_bool, i_int_tuple, i_int_list, i_str_str, i_str_int, i_str_bool, i_str_tuple, i_str_list, i_tup_str, i_tup_int, i_tup_bool, i_tup_tuple, i_tup_list, r_range2, r_lent, r_tuple1, r_int1, r_neg, List.replicate_succ, List.replicate_zero, List.cons_append, List.nil_append, List.length_cons, List.length_nil]
  refine st_if ?_
  simp only [wpE, wpL, wpB, wpO, r_add, r_sub, r_mul, r_mod, r_fdiv, r_adds, r_eqi, r_eqs, r_nei, r_nes, r_lt, r_le, r_gt, r_ge, r_is, r_isnot, r_isb, r_truth, r_idxs, r_idxl, r_slc, r_lens, r_lenr, r_lenl, r_inst, r_range, r_starts, r_starts', r_append, r_append', n_none, n_int, n_str, n_tup, n_ref, n_bool, isBool, List.getD_cons_zero, List.getD_cons_succ, ne_eq, reduceCtorEq, not_false_eq_true, true_and, List.set_cons_zero, List.set_cons_succ, Option.some.injEq, exists_eq_left', if_true, if_false, Bool.false_eq_true, Bool.not_true, Bool.not_false, i_none_str, i_none_int, i_none_bool, i_none_tuple, i_none_list, i_bool_str, i_bool_int, i_bool_bool, i_bool_tuple, i_bool_list, i_int_str, i_int_int, i_int_bool, i_int_tuple, i_int_list, i_str_str, i_str_int, i_str_bool, i_str_tuple, i_str_list, i_tup_str, i_tup_int, i_tup_bool, i_tup_tuple, i_tup_list, r_range2, r_lent, r_tuple1, r_int1, r_neg, List.replicate_succ, List.replicate_zero, List.cons_append, List.nil_append, List.length_cons, List.length_nil]
  refine i0 ?_
  simp only [wpE, wpL, wpB, wpO, r_add, r_sub, r_mul, r_mod, r_fdiv, r_adds, r_eqi, r_eqs, r_nei, r_nes, r_lt, r_le, r_gt, r_ge, r_is, r_isnot, r_isb, r_truth, r_idxs, r_idxl, r_slc, r_lens, r_lenr, r_lenl, r_inst, r_range, r_starts, r_starts', r_append, r_append', n_none, n_int, n_str, n_tup, n_ref, n_bool, isBool, List.getD_cons_zero, List.getD_cons_succ, ne_eq, reduceCtorEq, not_false_eq_true, true_and, List.set_cons_zero, List.set_cons_succ, Option.some.injEq, exists_eq_left', if_true, if_false, Bool.false_eq_true, Bool.not_true, Bool.not_false, i_none_str, i_none_int, i_none_bool, i_none_tuple, i_none_list, i_bool_str, i_bool_int, i_bool_bool, i_bool_tuple, i_bool_list, i_int_str, i_int_int, i_int_bool, i_int_tuple, i_int_list, i_str_str, i_str_int, i_str_bool, i_str_tuple, i_str_list, i_tup_str, i_tup_int, i_tup_bool, i_tup_tuple, i_tup_list, r_range2, r_lent, r_tuple1, r_int1, r_neg, List.replicate_succ, List.replicate_zero, List.cons_append, List.nil_append, List.length_cons, List.length_nil]
  rcases hk with rfl | rfl
  · rw [if_pos (by decide)]
    refine i1 ?_
    simp only [wpE, wpL, wpB, wpO, r_add, r_sub, r_mul, r_mod, r_fdiv, r_adds, r_eqi, r_eqs, r_nei, r_nes, r_lt, r_le, r_gt, r_ge, r_is, r_isnot, r_isb, r_truth, r_idxs, r_idxl, r_slc, r_lens, r_lenr, r_lenl, r_inst, r_range, r_starts, r_starts', r_append, r_append', n_none, n_int, n_str, n_tup, n_ref, n_bool, isBool, List.getD_cons_zero, List.getD_cons_succ, ne_eq, reduceCtorEq, not_false_eq_true, true_and, List.set_cons_zero, List.set_cons_succ, Option.some.injEq, exists_eq_left', if_true, if_false, Bool.false_eq_true, Bool.not_true, Bool.not_false, i_none_str, i_none_int, i_none_bool, i_none_tuple, i_none_list, i_bool_str, i_bool_int, i_bool_bool, i_bool_tuple, i_bool_list, i_int_str, i_int_int, i_int_bool, i_int_tuple, i_int_list, i_str_str, i_str_int, i_str_bool, i_str_tuple, i_str_list, i_tup_str, i_tup_int, i_tup_bool, i_tup_tuple, i_tup_list, r_range2, r_lent, r_tuple1, r_int1, r_neg, List.replicate_succ, List.replicate_zero, List.cons_append, List.nil_append, List.length_cons, List.length_nil]
    refine ⟨by omega, i2 ⟨by decide, h⟩⟩
  · rw [if_neg (by decide)]
    refine st_ret ?_
    simp only [wpE, wpL, wpB, wpO, r_add, r_sub, r_mul, r_mod, r_fdiv, r_adds, r_eqi, r_eqs, r_nei, r_nes, r_lt, r_le, r_gt, r_ge, r_is, r_isnot, r_isb, r_truth, r_idxs, r_idxl, r_slc, r_lens, r_lenr, r_lenl, r_inst, r_range, r_starts, r_starts', r_append, r_append', n_none, n_int, n_str, n_tup, n_ref, n_bool, isBool, List.getD_cons_zero, List.getD_cons_succ, ne_eq, reduceCtorEq, not_false_eq_true, true_and, List.set_cons_zero, List.set_cons_succ, Option.some.injEq, exists_eq_left', if_true, if_false, Bool.false_eq_true, Bool.not_true, Bool.not_false, i_none_str, i_none_int, i_none_bool, i_none_tuple, i_none_list, i_bool_str, i_bool_int, i_bool_bool, i_bool_tuple, i_bool_list, i_int_str, i_int_int, i_int_bool, i_int_tuple, i_int_list, i_str_str, i_str_int, i_str_bool, i_str_tuple, i_str_list, i_tup_str, i_tup_int, i_tup_bool, i_tup_tuple, i_tup_list, r_range2, r_lent, r_tuple1, r_int1, r_neg, List.replicate_succ, List.replicate_zero, List.cons_append, List.nil_append, List.length_cons, List.length_nil]
    refine i1 ?_
    simp only [wpE, wpL, wpB, wpO, r_add, r_sub, r_mul, r_mod, r_fdiv, r_adds, r_eqi, r_eqs, r_nei, r_nes, r_lt, r_le, r_gt, r_ge, r_is, r_isnot, r_isb, r_truth, r_idxs, r_idxl, r_slc, r_lens, r_lenr, r_lenl, r_inst, r_range, r_starts, r_starts', r_append, r_append', n_none, n_int, n_str, n_tup, n_ref, n_bool, isBool, List.getD_cons_zero, List.getD_cons_succ, ne_eq, reduceCtorEq, not_false_eq_true, true_and, List.set_cons_zero, List.set_cons_succ, Option.some.injEq, exists_eq_left', if_true, if_false, Bool.false_eq_true, Bool.not_true, Bool.not_false, i_none_str, i_none_int, i_none_bool, i_none_tuple, i_none_list, i_bool_str, i_bool_int, i_bool_bool, i_bool_tuple, i_bool_list, i_int_str, i_int_int, i_int_bool, i_int_tuple, i_int_list, i_str_str, i_str_int, i_str_bool, i_str_tuple, i_str_list, i_tup_str, i_tup_int, i_tup_bool, i_tup_tuple, i_tup_list, r_range2, r_lent, r_tuple1, r_int1, r_neg, List.replicate_succ, List.replicate_zero, List.cons_append, List.nil_append, List.length_cons, List.length_nil]
    refine ⟨by omega, i2 ⟨by decide, h⟩⟩
theorem c_knot (C : C03 G) {zs : List Int} (hz : zs.length ≤ 63) (hd : 5 ≤ m.d) (hh : m.hd = true) (h : ∀ σ', Ext σ σ' → Q (knotV zs) σ') : CallF G m "_law_knot" [.lst (zs.map .int)] σ Q X := by
  have hS : sizeLine = 16777216 := rfl
  have hd' : 0 < m.d - 1 := by omega
  refine call_of 5 C.ok C.knot.2 rfl rfl (by omega) (st_asg ?_)
  simp only [wpE, wpL, wpB, wpO, r_add, r_sub, r_mul, r_mod, r_fdiv, r_adds, r_eqi, r_eqs, r_nei, r_nes, r_lt, r_le, r_gt, r_ge, r_is, r_isnot, r_isb, r_truth, r_idxs, r_idxl, r_slc, r_lens, r_lenr, r_lenl, r_inst, r_range, r_starts, r_starts', r_append, r_append', n_none, n_int, n_str, n_tup, n_ref, n_bool, isBool, List.getD_cons_zero, List.getD_cons_succ, ne_eq, reduceCtorEq, not_false_eq_true, true_and, List.set_cons_zero, List.set_cons_succ, Option.some.injEq, exists_eq_left', if_true, if_false, Bool.false_eq_true, Bool.not_true, Bool.not_false, i_none_str, i_none_int, i_none_bool, i_none_tuple, i_none_list, i_bool_str, i_bool_int, i_bool_bool, i_bool_tuple, i_bool_list, i_int_str, i_int_int, i_int_bool, i_int_tuple, i_int_list, i_str_str, i_str_int, i_str_bool, i_str_tuple, i_str_list, i_tup_str, i_tup_int, i_tup_bool, i_tup_tuple, i_tup_list, r_range2, r_lent, r_tuple1, r_int1, r_neg, List.replicate_succ, List.replicate_zero, List.cons_append, List.nil_append, List.length_cons, List.length_nil]
  refine ⟨C.word.1, C.cell.1, c_cell_at C.ok C.cell.2 hz (by omega) hd' ⟨C.cell.1, c_cell_at C.ok C.cell.2 hz (by omega) hd' ?_⟩⟩
  obtain ⟨k2, hk2, e2⟩ : ∃ n : Nat, n ≤ 6 ∧ zs.getD (2 : Int).toNat 0 % 7 = n := ⟨(zs.getD (2 : Int).toNat 0 % 7).toNat, by omega, by omega⟩
  simp only [wpE, wpL, wpB, wpO, r_add, r_sub, r_mul, r_mod, r_fdiv, r_adds, r_eqi, r_eqs, r_nei, r_nes, r_lt, r_le, r_gt, r_ge, r_is, r_isnot, r_isb, r_truth, r_idxs, r_idxl, r_slc, r_lens, r_lenr, r_lenl, r_inst, r_range, r_starts, r_starts', r_append, r_append', n_none, n_int, n_str, n_tup, n_ref, n_bool, isBool, List.getD_cons_zero, List.getD_cons_succ, ne_eq, reduceCtorEq, not_false_eq_true, true_and, List.set_cons_zero, List.set_cons_succ, Option.some.injEq, exists_eq_left', if_true, if_false, Bool.false_eq_true, Bool.not_true, Bool.not_false, i_none_str, i_none_int, i_none_bool, i_none_tuple, i_none_list, i_bool_str, i_bool_int, i_bool_bool, i_bool_tuple, i_bool_list, i_int_str, i_int_int, i_int_bool, i_int_tuple, i_int_list, i_str_str, i_str_int, i_str_bool, i_str_tuple, i_str_list, i_tup_str, i_tup_int, i_tup_bool, i_tup_tuple, i_tup_list, r_range2, r_lent, r_tuple1, r_int1, r_neg, List.replicate_succ, List.replicate_zero, List.cons_append, List.nil_append, List.length_cons, List.length_nil, e2]
  refine ⟨by omega, c_word_by C.ok C.word.2 C.sign (by omega) (by show 1 < m.d - 1; omega) hh fun σ₁ x₁ => st_asg ?_⟩
  have ew : wordBy (zs.getD (1 : Int).toNat 0) k2 = knotW zs := by unfold knotW; congr 1; have : zs.getD 2 0 % 7 = k2 := e2; omega
  rw [ew]
  simp only [wpE, wpL, wpB, wpO, r_add, r_sub, r_mul, r_mod, r_fdiv, r_adds, r_eqi, r_eqs, r_nei, r_nes, r_lt, r_le, r_gt, r_ge, r_is, r_isnot, r_isb, r_truth, r_idxs, r_idxl, r_slc, r_lens, r_lenr, r_lenl, r_inst, r_range, r_starts, r_starts', r_append, r_append', n_none, n_int, n_str, n_tup, n_ref, n_bool, isBool, List.getD_cons_zero, List.getD_cons_succ, ne_eq, reduceCtorEq, not_false_eq_true, true_and, List.set_cons_zero, List.set_cons_succ, Option.some.injEq, exists_eq_left', if_true, if_false, Bool.false_eq_true, Bool.not_true, Bool.not_false, i_none_str, i_none_int, i_none_bool, i_none_tuple, i_none_list, i_bool_str, i_bool_int, i_bool_bool, i_bool_tuple, i_bool_list, i_int_str, i_int_int, i_int_bool, i_int_tuple, i_int_list, i_str_str, i_str_int, i_str_bool, i_str_tuple, i_str_list, i_tup_str, i_tup_int, i_tup_bool, i_tup_tuple, i_tup_list, r_range2, r_lent, r_tuple1, r_int1, r_neg, List.replicate_succ, List.replicate_zero, List.cons_append, List.nil_append, List.length_cons, List.length_nil]
  refine ⟨C.number.1, C.cell.1, c_cell_at C.ok C.cell.2 hz (by omega) hd' (c_number_by C.ok C.number.2 hd' hh fun σ₂ x₂ => st_asg ?_)⟩
  simp only [wpE, wpL, wpB, wpO, r_add, r_sub, r_mul, r_mod, r_fdiv, r_adds, r_eqi, r_eqs, r_nei, r_nes, r_lt, r_le, r_gt, r_ge, r_is, r_isnot, r_isb, r_truth, r_idxs, r_idxl, r_slc, r_lens, r_lenr, r_lenl, r_inst, r_range, r_starts, r_starts', r_append, r_append', n_none, n_int, n_str, n_tup, n_ref, n_bool, isBool, List.getD_cons_zero, List.getD_cons_succ, ne_eq, reduceCtorEq, not_false_eq_true, true_and, List.set_cons_zero, List.set_cons_succ, Option.some.injEq, exists_eq_left', if_true, if_false, Bool.false_eq_true, Bool.not_true, Bool.not_false, i_none_str, i_none_int, i_none_bool, i_none_tuple, i_none_list, i_bool_str, i_bool_int, i_bool_bool, i_bool_tuple, i_bool_list, i_int_str, i_int_int, i_int_bool, i_int_tuple, i_int_list, i_str_str, i_str_int, i_str_bool, i_str_tuple, i_str_list, i_tup_str, i_tup_int, i_tup_bool, i_tup_tuple, i_tup_list, r_range2, r_lent, r_tuple1, r_int1, r_neg, List.replicate_succ, List.replicate_zero, List.cons_append, List.nil_append, List.length_cons, List.length_nil]
  refine ⟨C.cell.1, c_cell_at C.ok C.cell.2 hz (by omega) hd' ?_⟩
  obtain ⟨w, hw, e0⟩ : ∃ n : Nat, n ≤ 5 ∧ zs.getD (0 : Int).toNat 0 % 6 = n := ⟨(zs.getD (0 : Int).toNat 0 % 6).toNat, by omega, by omega⟩
  have e0' : zs.getD 0 0 % 6 = w := e0
  have x12 : Ext σ σ₂ := x₁.trans x₂
  simp only [wpE, wpL, wpB, wpO, r_add, r_sub, r_mul, r_mod, r_fdiv, r_adds, r_eqi, r_eqs, r_nei, r_nes, r_lt, r_le, r_gt, r_ge, r_is, r_isnot, r_isb, r_truth, r_idxs, r_idxl, r_slc, r_lens, r_lenr, r_lenl, r_inst, r_range, r_starts, r_starts', r_append, r_append', n_none, n_int, n_str, n_tup, n_ref, n_bool, isBool, List.getD_cons_zero, List.getD_cons_succ, ne_eq, reduceCtorEq, not_false_eq_true, true_and, List.set_cons_zero, List.set_cons_succ, Option.some.injEq, exists_eq_left', if_true, if_false, Bool.false_eq_true, Bool.not_true, Bool.not_false, i_none_str, i_none_int, i_none_bool, i_none_tuple, i_none_list, i_bool_str, i_bool_int, i_bool_bool, i_bool_tuple, i_bool_list, i_int_str, i_int_int, i_int_bool, i_int_tuple, i_int_list, i_str_str, i_str_int, i_str_bool, i_str_tuple, i_str_list, i_tup_str, i_tup_int, i_tup_bool, i_tup_tuple, i_tup_list, r_range2, r_lent, r_tuple1, r_int1, r_neg, List.replicate_succ, List.replicate_zero, List.cons_append, List.nil_append, List.length_cons, List.length_nil, e0]
  refine ⟨by omega, st_if ?_⟩
  simp only [wpE, wpL, wpB, wpO, r_add, r_sub, r_mul, r_mod, r_fdiv, r_adds, r_eqi, r_eqs, r_nei, r_nes, r_lt, r_le, r_gt, r_ge, r_is, r_isnot, r_isb, r_truth, r_idxs, r_idxl, r_slc, r_lens, r_lenr, r_lenl, r_inst, r_range, r_starts, r_starts', r_append, r_append', n_none, n_int, n_str, n_tup, n_ref, n_bool, isBool, List.getD_cons_zero, List.getD_cons_succ, ne_eq, reduceCtorEq, not_false_eq_true, true_and, List.set_cons_zero, List.set_cons_succ, Option.some.injEq, exists_eq_left', if_true, if_false, Bool.false_eq_true, Bool.not_true, Bool.not_false, i_none_str, i_none_int, i_none_bool, i_none_tuple, i_none_list, i_bool_str, i_bool_int, i_bool_bool, i_bool_tuple, i_bool_list, i_int_str, i_int_int, i_int_bool, i_int_tuple, i_int_list, i_str_str, i_str_int, i_str_bool, i_str_tuple, i_str_list, i_tup_str, i_tup_int, i_tup_bool, i_tup_tuple, i_tup_list, r_range2, r_lent, r_tuple1, r_int1, r_neg, List.replicate_succ, List.replicate_zero, List.cons_append, List.nil_append, List.length_cons, List.length_nil]
  by_cases c0 : w = 0
  · subst c0
    rw [if_pos (by decide)]
    have := h σ₂ x12
    rw [show knotV zs = .none from if_pos e0'] at this
    exact this
  rw [if_neg (by simp; omega)]
  refine st_if ?_
  simp only [wpE, wpL, wpB, wpO, r_add, r_sub, r_mul, r_mod, r_fdiv, r_adds, r_eqi, r_eqs, r_nei, r_nes, r_lt, r_le, r_gt, r_ge, r_is, r_isnot, r_isb, r_truth, r_idxs, r_idxl, r_slc, r_lens, r_lenr, r_lenl, r_inst, r_range, r_starts, r_starts', r_append, r_append', n_none, n_int, n_str, n_tup, n_ref, n_bool, isBool, List.getD_cons_zero, List.getD_cons_succ, ne_eq, reduceCtorEq, not_false_eq_true, true_and, List.set_cons_zero, List.set_cons_succ, Option.some.injEq, exists_eq_left', if_true, if_false, Bool.false_eq_true, Bool.not_true, Bool.not_false, i_none_str, i_none_int, i_none_bool, i_none_tuple, i_none_list, i_bool_str, i_bool_int, i_bool_bool, i_bool_tuple, i_bool_list, i_int_str, i_int_int, i_int_bool, i_int_tuple, i_int_list, i_str_str, i_str_int, i_str_bool, i_str_tuple, i_str_list, i_tup_str, i_tup_int, i_tup_bool, i_tup_tuple, i_tup_list, r_range2, r_lent, r_tuple1, r_int1, r_neg, List.replicate_succ, List.replicate_zero, List.cons_append, List.nil_append, List.length_cons, List.length_nil]
  by_cases c1 : w = 1
  · subst c1
    rw [if_pos (by decide)]
    refine ⟨by decide, ?_⟩
    have := h σ₂ x12
    rw [show knotV zs = .tup [.str (lit "leaf"), .str (knotW zs), .int (numBy (zs.getD 3 0))] by unfold knotV; rw [if_neg (by omega), if_pos (by omega)]] at this
    exact this
  rw [if_neg (by simp; omega)]
  refine st_asg ?_
  simp only [wpE, wpL, wpB, wpO, r_add, r_sub, r_mul, r_mod, r_fdiv, r_adds, r_eqi, r_eqs, r_nei, r_nes, r_lt, r_le, r_gt, r_ge, r_is, r_isnot, r_isb, r_truth, r_idxs, r_idxl, r_slc, r_lens, r_lenr, r_lenl, r_inst, r_range, r_starts, r_starts', r_append, r_append', n_none, n_int, n_str, n_tup, n_ref, n_bool, isBool, List.getD_cons_zero, List.getD_cons_succ, ne_eq, reduceCtorEq, not_false_eq_true, true_and, List.set_cons_zero, List.set_cons_succ, Option.some.injEq, exists_eq_left', if_true, if_false, Bool.false_eq_true, Bool.not_true, Bool.not_false, i_none_str, i_none_int, i_none_bool, i_none_tuple, i_none_list, i_bool_str, i_bool_int, i_bool_bool, i_bool_tuple, i_bool_list, i_int_str, i_int_int, i_int_bool, i_int_tuple, i_int_list, i_str_str, i_str_int, i_str_bool, i_str_tuple, i_str_list, i_tup_str, i_tup_int, i_tup_bool, i_tup_tuple, i_tup_list, r_range2, r_lent, r_tuple1, r_int1, r_neg, List.replicate_succ, List.replicate_zero, List.cons_append, List.nil_append, List.length_cons, List.length_nil]
  refine ⟨by decide, (show 2 ≤ sizeLine by decide), (show 1 ≤ sizeLine by decide), fun a ha => st_for1 hh ?_⟩
  simp only [wpE, wpL, wpB, wpO, r_add, r_sub, r_mul, r_mod, r_fdiv, r_adds, r_eqi, r_eqs, r_nei, r_nes, r_lt, r_le, r_gt, r_ge, r_is, r_isnot, r_isb, r_truth, r_idxs, r_idxl, r_slc, r_lens, r_lenr, r_lenl, r_inst, r_range, r_starts, r_starts', r_append, r_append', n_none, n_int, n_str, n_tup, n_ref, n_bool, isBool, List.getD_cons_zero, List.getD_cons_succ, ne_eq, reduceCtorEq, not_false_eq_true, true_and, List.set_cons_zero, List.set_cons_succ, Option.some.injEq, exists_eq_left', if_true, if_false, Bool.false_eq_true, Bool.not_true, Bool.not_false, i_none_str, i_none_int, i_none_bool, i_none_tuple, i_none_list, i_bool_str, i_bool_int, i_bool_bool, i_bool_tuple, i_bool_list, i_int_str, i_int_int, i_int_bool, i_int_tuple, i_int_list, i_str_str, i_str_int, i_str_bool, i_str_tuple, i_str_list, i_tup_str, i_tup_int, i_tup_bool, i_tup_tuple, i_tup_list, r_range2, r_lent, r_tuple1, r_int1, r_neg, List.replicate_succ, List.replicate_zero, List.cons_append, List.nil_append, List.length_cons, List.length_nil]
  refine ⟨by omega, by omega, by omega, by omega, _, rfl, for_intro (fun i ρ σ' => Ext σ σ' ∧ σ' a = some (.list (leavesV zs (knotW zs) (numBy (zs.getD 3 0)) i)) ∧ ∃ kv, ρ = [.lst (zs.map .int), .str (knotW zs), .int (numBy (zs.getD 3 0)), .int w, .ref a, kv]) ⟨x12.trans (.set ha), Hp.set_self .., .unb, rfl⟩ ?_ ?_⟩
  · rintro i ρ σ₃ x hx ⟨x₃, hs, kv, rfl⟩
    have hi : i < w - 1 := by have := (List.getElem?_eq_some_iff.mp hx).1; simp at this; omega
    have hxv : x = .int (1 + (i : Int)) := by
      rw [List.getElem?_map, List.getElem?_range (by omega)] at hx
      exact (Option.some.inj hx).symm
    subst hxv
    refine ⟨rfl, _, rfl, st_expr ?_⟩
    simp only [wpE, wpL, wpB, wpO, r_add, r_sub, r_mul, r_mod, r_fdiv, r_adds, r_eqi, r_eqs, r_nei, r_nes, r_lt, r_le, r_gt, r_ge, r_is, r_isnot, r_isb, r_truth, r_idxs, r_idxl, r_slc, r_lens, r_lenr, r_lenl, r_inst, r_range, r_starts, r_starts', r_append, r_append', n_none, n_int, n_str, n_tup, n_ref, n_bool, isBool, List.getD_cons_zero, List.getD_cons_succ, ne_eq, reduceCtorEq, not_false_eq_true, true_and, List.set_cons_zero, List.set_cons_succ, Option.some.injEq, exists_eq_left', if_true, if_false, Bool.false_eq_true, Bool.not_true, Bool.not_false, i_none_str, i_none_int, i_none_bool, i_none_tuple, i_none_list, i_bool_str, i_bool_int, i_bool_bool, i_bool_tuple, i_bool_list, i_int_str, i_int_int, i_int_bool, i_int_tuple, i_int_list, i_str_str, i_str_int, i_str_bool, i_str_tuple, i_str_list, i_tup_str, i_tup_int, i_tup_bool, i_tup_tuple, i_tup_list, r_range2, r_lent, r_tuple1, r_int1, r_neg, List.replicate_succ, List.replicate_zero, List.cons_append, List.nil_append, List.length_cons, List.length_nil, hs, Cell.list.injEq]
    refine ⟨⟨_, rfl⟩, by decide, fun b hb => ?_⟩
    have hba : a ≠ b := by rintro rfl; rw [hs] at hb; cases hb
    have e1 : (1 : Int) + i - 1 = i := by omega
    rw [e1]
    refine idx_ref (k := i) (xs := [.str (lit "a"), .str (lit "b"), .str (lit "c"), .str (lit "d")]) (x := .str [97 + i]) (Hp.set_self ..) ?_ (by show 4 < 2 ^ 62; decide) ?_
    · rcases (show i = 0 ∨ i = 1 ∨ i = 2 ∨ i = 3 by omega) with rfl | rfl | rfl | rfl <;> rfl
    refine ⟨C.number.1, C.cell.1, c_cell_at C.ok C.cell.2 hz (by omega) hd' (c_number_by C.ok C.number.2 hd' hh fun σ₄ x₄ => ?_)⟩
    have e3 : (3 + (1 + (i : Int))).toNat = 4 + i := by omega
    rw [e3]
    have ha4 : σ₄ a = some (.list (leavesV zs (knotW zs) (numBy (zs.getD 3 0)) i)) := x₄ _ _ (by rw [Hp.set_ne _ _ hba]; exact hs)
    refine ⟨(show 3 ≤ sizeLine by decide), (show 2 ≤ sizeLine by decide), _, ha4, by simp [leavesV]; omega, st_nil ⟨?_, ?_, _, rfl⟩⟩
    · exact ((x₃.trans (.set hb)).trans x₄).set_new (x12.isNone ha)
    · rw [Hp.set_self]; simp [leavesV, List.range_succ, branchV]
  · rintro ρ σ₃ ⟨x₃, hs, kv, rfl⟩
    refine ⟨rfl, st_ret ?_⟩
    simp only [wpE, wpL, wpB, wpO, r_add, r_sub, r_mul, r_mod, r_fdiv, r_adds, r_eqi, r_eqs, r_nei, r_nes, r_lt, r_le, r_gt, r_ge, r_is, r_isnot, r_isb, r_truth, r_idxs, r_idxl, r_slc, r_lens, r_lenr, r_lenl, r_inst, r_range, r_starts, r_starts', r_append, r_append', n_none, n_int, n_str, n_tup, n_ref, n_bool, isBool, List.getD_cons_zero, List.getD_cons_succ, ne_eq, reduceCtorEq, not_false_eq_true, true_and, List.set_cons_zero, List.set_cons_succ, Option.some.injEq, exists_eq_left', if_true, if_false, Bool.false_eq_true, Bool.not_true, Bool.not_false, i_none_str, i_none_int, i_none_bool, i_none_tuple, i_none_list, i_bool_str, i_bool_int, i_bool_bool, i_bool_tuple, i_bool_list, i_int_str, i_int_int, i_int_bool, i_int_tuple, i_int_list, i_str_str, i_str_int, i_str_bool, i_str_tuple, i_str_list, i_tup_str, i_tup_int, i_tup_bool, i_tup_tuple, i_tup_list, r_range2, r_lent, r_tuple1, r_int1, r_neg, List.replicate_succ, List.replicate_zero, List.cons_append, List.nil_append, List.length_cons, List.length_nil, hs, Cell.list.injEq]
    refine ⟨by simp [leavesV]; omega, by decide, ?_⟩
    have := h σ₃ x₃
    rw [show knotV zs = .tup [.str (lit "fork"), .str (knotW zs), .tup (leavesV zs (knotW zs) (numBy (zs.getD 3 0)) (zs.getD 0 0 % 6 - 1).toNat)] by unfold knotV; rw [if_neg (by omega), if_neg (by omega)]] at this
    rw [show (zs.getD 0 0 % 6 - 1).toNat = (List.map (fun (i : Nat) => V.int (1 + (i : Int))) (List.range ((w : Int) - 1).toNat)).length by rw [List.length_map, List.length_range, e0']] at this
    exact this
end
theorem law03 {G : Gl} (C : C03 G) {zs : List Int} (hz : zs.length ≤ 63) : wpSs G ⟨679, true⟩ F_law.body (.lst (zs.map .int) :: List.replicate 4 .unb) h0 (finQ fun x _ => x = .bool true) (fun _ _ => False) := by
  have hS : sizeLine = 16777216 := rfl
  refine st_asg ?_
  simp only [wpE, wpL, wpB, wpO, r_add, r_sub, r_mul, r_mod, r_fdiv, r_adds, r_eqi, r_eqs, r_nei, r_nes, r_lt, r_le, r_gt, r_ge, r_is, r_isnot, r_isb, r_truth, r_idxs, r_idxl, r_slc, r_lens, r_lenr, r_lenl, r_inst, r_range, r_starts, r_starts', r_append, r_append', n_none, n_int, n_str, n_tup, n_ref, n_bool, isBool, List.getD_cons_zero, List.getD_cons_succ, ne_eq, reduceCtorEq, not_false_eq_true, true_and, List.set_cons_zero, List.set_cons_succ, Option.some.injEq, exists_eq_left', if_true, if_false, Bool.false_eq_true, Bool.not_true, Bool.not_false, i_none_str, i_none_int, i_none_bool, i_none_tuple, i_none_list, i_bool_str, i_bool_int, i_bool_bool, i_bool_tuple, i_bool_list, i_int_str, i_int_int, i_int_bool, i_int_tuple, i_int_list, i_str_str, i_str_int, i_str_bool, i_str_tuple, i_str_list, i_tup_str, i_tup_int, i_tup_bool, i_tup_tuple, i_tup_list, r_range2, r_lent, r_tuple1, r_int1, r_neg, List.replicate_succ, List.replicate_zero, List.cons_append, List.nil_append, List.length_cons, List.length_nil]
  refine ⟨C.knot.1, c_knot C hz (by decide) rfl fun σ₁ x₁ => st_asg ?_⟩
  simp only [wpE, wpL, wpB, wpO, r_add, r_sub, r_mul, r_mod, r_fdiv, r_adds, r_eqi, r_eqs, r_nei, r_nes, r_lt, r_le, r_gt, r_ge, r_is, r_isnot, r_isb, r_truth, r_idxs, r_idxl, r_slc, r_lens, r_lenr, r_lenl, r_inst, r_range, r_starts, r_starts', r_append, r_append', n_none, n_int, n_str, n_tup, n_ref, n_bool, isBool, List.getD_cons_zero, List.getD_cons_succ, ne_eq, reduceCtorEq, not_false_eq_true, true_and, List.set_cons_zero, List.set_cons_succ, Option.some.injEq, exists_eq_left', if_true, if_false, Bool.false_eq_true, Bool.not_true, Bool.not_false, i_none_str, i_none_int, i_none_bool, i_none_tuple, i_none_list, i_bool_str, i_bool_int, i_bool_bool, i_bool_tuple, i_bool_list, i_int_str, i_int_int, i_int_bool, i_int_tuple, i_int_list, i_str_str, i_str_int, i_str_bool, i_str_tuple, i_str_list, i_tup_str, i_tup_int, i_tup_bool, i_tup_tuple, i_tup_list, r_range2, r_lent, r_tuple1, r_int1, r_neg, List.replicate_succ, List.replicate_zero, List.cons_append, List.nil_append, List.length_cons, List.length_nil]
  refine ⟨C.cell.1, c_cell_at C.ok C.cell.2 hz (by omega) (by decide) ?_⟩
  simp only [wpE, wpL, wpB, wpO, r_add, r_sub, r_mul, r_mod, r_fdiv, r_adds, r_eqi, r_eqs, r_nei, r_nes, r_lt, r_le, r_gt, r_ge, r_is, r_isnot, r_isb, r_truth, r_idxs, r_idxl, r_slc, r_lens, r_lenr, r_lenl, r_inst, r_range, r_starts, r_starts', r_append, r_append', n_none, n_int, n_str, n_tup, n_ref, n_bool, isBool, List.getD_cons_zero, List.getD_cons_succ, ne_eq, reduceCtorEq, not_false_eq_true, true_and, List.set_cons_zero, List.set_cons_succ, Option.some.injEq, exists_eq_left', if_true, if_false, Bool.false_eq_true, Bool.not_true, Bool.not_false, i_none_str, i_none_int, i_none_bool, i_none_tuple, i_none_list, i_bool_str, i_bool_int, i_bool_bool, i_bool_tuple, i_bool_list, i_int_str, i_int_int, i_int_bool, i_int_tuple, i_int_list, i_str_str, i_str_int, i_str_bool, i_str_tuple, i_str_list, i_tup_str, i_tup_int, i_tup_bool, i_tup_tuple, i_tup_list, r_range2, r_lent, r_tuple1, r_int1, r_neg, List.replicate_succ, List.replicate_zero, List.cons_append, List.nil_append, List.length_cons, List.length_nil]
  refine ⟨by omega, by omega, by omega, (show 2 ≤ sizeLine by decide), fun a ha => ⟨C.cell.1, c_cell_at C.ok C.cell.2 hz (by omega) (by decide) ?_⟩⟩
  simp only [wpE, wpL, wpB, wpO, r_add, r_sub, r_mul, r_mod, r_fdiv, r_adds, r_eqi, r_eqs, r_nei, r_nes, r_lt, r_le, r_gt, r_ge, r_is, r_isnot, r_isb, r_truth, r_idxs, r_idxl, r_slc, r_lens, r_lenr, r_lenl, r_inst, r_range, r_starts, r_starts', r_append, r_append', n_none, n_int, n_str, n_tup, n_ref, n_bool, isBool, List.getD_cons_zero, List.getD_cons_succ, ne_eq, reduceCtorEq, not_false_eq_true, true_and, List.set_cons_zero, List.set_cons_succ, Option.some.injEq, exists_eq_left', if_true, if_false, Bool.false_eq_true, Bool.not_true, Bool.not_false, i_none_str, i_none_int, i_none_bool, i_none_tuple, i_none_list, i_bool_str, i_bool_int, i_bool_bool, i_bool_tuple, i_bool_list, i_int_str, i_int_int, i_int_bool, i_int_tuple, i_int_list, i_str_str, i_str_int, i_str_bool, i_str_tuple, i_str_list, i_tup_str, i_tup_int, i_tup_bool, i_tup_tuple, i_tup_list, r_range2, r_lent, r_tuple1, r_int1, r_neg, List.replicate_succ, List.replicate_zero, List.cons_append, List.nil_append, List.length_cons, List.length_nil]
  refine ⟨by omega, ?_⟩
  refine idx_lit (xs := [.int (zs.getD (4 : Int).toNat 0 / 4 % 7), .int 30]) (by split <;> omega) (by show _ < (2 : Int); split <;> omega) (by show 2 < 2 ^ 62; decide) (Hp.set_self ..) ?_
  obtain ⟨n, hn, e⟩ : ∃ n : Nat, n ≤ 30 ∧ [V.int (zs.getD (4 : Int).toNat 0 / 4 % 7), V.int 30].getD (if (zs.getD (4 : Int).toNat 0 % 4 == 3) = true then (1 : Int) else 0).toNat .unb = .int n := by
    split
    · exact ⟨30, by omega, rfl⟩
    · exact ⟨(zs.getD (4 : Int).toNat 0 / 4 % 7).toNat, by omega, by show V.int _ = V.int _; congr 1; omega⟩
  rw [e]
  refine st_asg ?_
  simp only [wpE, wpL, wpB, wpO, r_add, r_sub, r_mul, r_mod, r_fdiv, r_adds, r_eqi, r_eqs, r_nei, r_nes, r_lt, r_le, r_gt, r_ge, r_is, r_isnot, r_isb, r_truth, r_idxs, r_idxl, r_slc, r_lens, r_lenr, r_lenl, r_inst, r_range, r_starts, r_starts', r_append, r_append', n_none, n_int, n_str, n_tup, n_ref, n_bool, isBool, List.getD_cons_zero, List.getD_cons_succ, ne_eq, reduceCtorEq, not_false_eq_true, true_and, List.set_cons_zero, List.set_cons_succ, Option.some.injEq, exists_eq_left', if_true, if_false, Bool.false_eq_true, Bool.not_true, Bool.not_false, i_none_str, i_none_int, i_none_bool, i_none_tuple, i_none_list, i_bool_str, i_bool_int, i_bool_bool, i_bool_tuple, i_bool_list, i_int_str, i_int_int, i_int_bool, i_int_tuple, i_int_list, i_str_str, i_str_int, i_str_bool, i_str_tuple, i_str_list, i_tup_str, i_tup_int, i_tup_bool, i_tup_tuple, i_tup_list, r_range2, r_lent, r_tuple1, r_int1, r_neg, List.replicate_succ, List.replicate_zero, List.cons_append, List.nil_append, List.length_cons, List.length_nil]
  refine ⟨C.word.1, C.cell.1, c_cell_at C.ok C.cell.2 hz (by omega) (by decide) (c_word_by C.ok C.word.2 C.sign (by omega) (by decide) rfl fun σ₂ x₂ => st_asg ?_)⟩
  have hb := wordBy_len (zs.getD (5 : Int).toNat 0) n
  generalize wordBy (zs.getD (5 : Int).toNat 0) n = b at hb
  have hk := knot_ok zs
  have hkn : ∀ {m : Md} {σ : Hp} {Q : V → Hp → Prop} {X : Value → Hp → Prop}, 5 ≤ m.d → m.hd = true → (∀ σ', Ext σ σ' → Q (knotV zs) σ') → CallF G m "_law_knot" [.lst (zs.map .int)] σ Q X := fun h1 h2 h3 => c_knot C hz h1 h2 h3
  generalize knotV zs = t at hk hkn
  rcases hk with rfl | ⟨k, w, v, rfl, hk, hw, hv⟩
  · simp only [wpE, wpL, wpB, wpO, r_add, r_sub, r_mul, r_mod, r_fdiv, r_adds, r_eqi, r_eqs, r_nei, r_nes, r_lt, r_le, r_gt, r_ge, r_is, r_isnot, r_isb, r_truth, r_idxs, r_idxl, r_slc, r_lens, r_lenr, r_lenl, r_inst, r_range, r_starts, r_starts', r_append, r_append', n_none, n_int, n_str, n_tup, n_ref, n_bool, isBool, List.getD_cons_zero, List.getD_cons_succ, ne_eq, reduceCtorEq, not_false_eq_true, true_and, List.set_cons_zero, List.set_cons_succ, Option.some.injEq, exists_eq_left', if_true, if_false, Bool.false_eq_true, Bool.not_true, Bool.not_false, i_none_str, i_none_int, i_none_bool, i_none_tuple, i_none_list, i_bool_str, i_bool_int, i_bool_bool, i_bool_tuple, i_bool_list, i_int_str, i_int_int, i_int_bool, i_int_tuple, i_int_list, i_str_str, i_str_int, i_str_bool, i_str_tuple, i_str_list, i_tup_str, i_tup_int, i_tup_bool, i_tup_tuple, i_tup_list, r_range2, r_lent, r_tuple1, r_int1, r_neg, List.replicate_succ, List.replicate_zero, List.cons_append, List.nil_append, List.length_cons, List.length_nil]
    refine ⟨C.ahead.1, call_of 0 C.ok C.ahead.2 rfl rfl (by decide) (st_if ?_)⟩
    simp only [wpE, wpL, wpB, wpO, r_add, r_sub, r_mul, r_mod, r_fdiv, r_adds, r_eqi, r_eqs, r_nei, r_nes, r_lt, r_le, r_gt, r_ge, r_is, r_isnot, r_isb, r_truth, r_idxs, r_idxl, r_slc, r_lens, r_lenr, r_lenl, r_inst, r_range, r_starts, r_starts', r_append, r_append', n_none, n_int, n_str, n_tup, n_ref, n_bool, isBool, List.getD_cons_zero, List.getD_cons_succ, ne_eq, reduceCtorEq, not_false_eq_true, true_and, List.set_cons_zero, List.set_cons_succ, Option.some.injEq, exists_eq_left', if_true, if_false, Bool.false_eq_true, Bool.not_true, Bool.not_false, i_none_str, i_none_int, i_none_bool, i_none_tuple, i_none_list, i_bool_str, i_bool_int, i_bool_bool, i_bool_tuple, i_bool_list, i_int_str, i_int_int, i_int_bool, i_int_tuple, i_int_list, i_str_str, i_str_int, i_str_bool, i_str_tuple, i_str_list, i_tup_str, i_tup_int, i_tup_bool, i_tup_tuple, i_tup_list, r_range2, r_lent, r_tuple1, r_int1, r_neg, List.replicate_succ, List.replicate_zero, List.cons_append, List.nil_append, List.length_cons, List.length_nil]
    refine st_if ?_
    simp only [wpE, wpL, wpB, wpO, r_add, r_sub, r_mul, r_mod, r_fdiv, r_adds, r_eqi, r_eqs, r_nei, r_nes, r_lt, r_le, r_gt, r_ge, r_is, r_isnot, r_isb, r_truth, r_idxs, r_idxl, r_slc, r_lens, r_lenr, r_lenl, r_inst, r_range, r_starts, r_starts', r_append, r_append', n_none, n_int, n_str, n_tup, n_ref, n_bool, isBool, List.getD_cons_zero, List.getD_cons_succ, ne_eq, reduceCtorEq, not_false_eq_true, true_and, List.set_cons_zero, List.set_cons_succ, Option.some.injEq, exists_eq_left', if_true, if_false, Bool.false_eq_true, Bool.not_true, Bool.not_false, i_none_str, i_none_int, i_none_bool, i_none_tuple, i_none_list, i_bool_str, i_bool_int, i_bool_bool, i_bool_tuple, i_bool_list, i_int_str, i_int_int, i_int_bool, i_int_tuple, i_int_list, i_str_str, i_str_int, i_str_bool, i_str_tuple, i_str_list, i_tup_str, i_tup_int, i_tup_bool, i_tup_tuple, i_tup_list, r_range2, r_lent, r_tuple1, r_int1, r_neg, List.replicate_succ, List.replicate_zero, List.cons_append, List.nil_append, List.length_cons, List.length_nil]
    rfl
  · have i0 : ∀ {Q : V → Hp → Prop} {σ : Hp}, Q (.str k) σ → idxP (.tup [.str k, .str w, v]) (.int 0) σ Q := fun q => idx_tup (k := 0) rfl (by show 3 < 2 ^ 62; decide) q
    have i1 : ∀ {Q : V → Hp → Prop} {σ : Hp}, Q (.str w) σ → idxP (.tup [.str k, .str w, v]) (.int 1) σ Q := fun q => idx_tup (k := 1) rfl (by show 3 < 2 ^ 62; decide) q
    have i2 : ∀ {Q : V → Hp → Prop} {σ : Hp}, Q v σ → idxP (.tup [.str k, .str w, v]) (.int 2) σ Q := fun q => idx_tup (k := 2) rfl (by show 3 < 2 ^ 62; decide) q
    have p3 : ∀ w', Pl 5 (.tup [.str k, .str w', v]) := fun w' => .tup _ (show 3 ≤ sizeLine by decide) (by simp; exact ⟨.str _ _, .str _ _, hv⟩)
    simp only [wpE, wpL, wpB, wpO, r_add, r_sub, r_mul, r_mod, r_fdiv, r_adds, r_eqi, r_eqs, r_nei, r_nes, r_lt, r_le, r_gt, r_ge, r_is, r_isnot, r_isb, r_truth, r_idxs, r_idxl, r_slc, r_lens, r_lenr, r_lenl, r_inst, r_range, r_starts, r_starts', r_append, r_append', n_none, n_int, n_str, n_tup, n_ref, n_bool, isBool, List.getD_cons_zero, List.getD_cons_succ, ne_eq, reduceCtorEq, not_false_eq_true, true_and, List.set_cons_zero, List.set_cons_succ, Option.some.injEq, exists_eq_left', if_true, if_false, Bool.false_eq_true, Bool.not_true, Bool.not_false, i_none_str, i_none_int, i_none_bool, i_none_tuple, i_none_list, i_bool_str, i_bool_int, i_bool_bool, i_bool_tuple, i_bool_list, i_int_str, i_int_int, i_int_bool, i_int_tuple, i_int_list, i_str_str, i_str_int, i_str_bool, i_str_tuple, i_str_list, i_tup_str, i_tup_int, i_tup_bool, i_tup_tuple, i_tup_list, r_range2, r_lent, r_tuple1, r_int1, r_neg, List.replicate_succ, List.replicate_zero, List.cons_append, List.nil_append, List.length_cons, List.length_nil]
    refine ⟨C.ahead.1, c_ahead C.ok C.ahead.2 hk (by omega) (by omega) (by decide) (st_if ?_)⟩
    simp only [wpE, wpL, wpB, wpO, r_add, r_sub, r_mul, r_mod, r_fdiv, r_adds, r_eqi, r_eqs, r_nei, r_nes, r_lt, r_le, r_gt, r_ge, r_is, r_isnot, r_isb, r_truth, r_idxs, r_idxl, r_slc, r_lens, r_lenr, r_lenl, r_inst, r_range, r_starts, r_starts', r_append, r_append', n_none, n_int, n_str, n_tup, n_ref, n_bool, isBool, List.getD_cons_zero, List.getD_cons_succ, ne_eq, reduceCtorEq, not_false_eq_true, true_and, List.set_cons_zero, List.set_cons_succ, Option.some.injEq, exists_eq_left', if_true, if_false, Bool.false_eq_true, Bool.not_true, Bool.not_false, i_none_str, i_none_int, i_none_bool, i_none_tuple, i_none_list, i_bool_str, i_bool_int, i_bool_bool, i_bool_tuple, i_bool_list, i_int_str, i_int_int, i_int_bool, i_int_tuple, i_int_list, i_str_str, i_str_int, i_str_bool, i_str_tuple, i_str_list, i_tup_str, i_tup_int, i_tup_bool, i_tup_tuple, i_tup_list, r_range2, r_lent, r_tuple1, r_int1, r_neg, List.replicate_succ, List.replicate_zero, List.cons_append, List.nil_append, List.length_cons, List.length_nil]
    refine st_ret ?_
    simp only [wpE, wpL, wpB, wpO, r_add, r_sub, r_mul, r_mod, r_fdiv, r_adds, r_eqi, r_eqs, r_nei, r_nes, r_lt, r_le, r_gt, r_ge, r_is, r_isnot, r_isb, r_truth, r_idxs, r_idxl, r_slc, r_lens, r_lenr, r_lenl, r_inst, r_range, r_starts, r_starts', r_append, r_append', n_none, n_int, n_str, n_tup, n_ref, n_bool, isBool, List.getD_cons_zero, List.getD_cons_succ, ne_eq, reduceCtorEq, not_false_eq_true, true_and, List.set_cons_zero, List.set_cons_succ, Option.some.injEq, exists_eq_left', if_true, if_false, Bool.false_eq_true, Bool.not_true, Bool.not_false, i_none_str, i_none_int, i_none_bool, i_none_tuple, i_none_list, i_bool_str, i_bool_int, i_bool_bool, i_bool_tuple, i_bool_list, i_int_str, i_int_int, i_int_bool, i_int_tuple, i_int_list, i_str_str, i_str_int, i_str_bool, i_str_tuple, i_str_list, i_tup_str, i_tup_int, i_tup_bool, i_tup_tuple, i_tup_list, r_range2, r_lent, r_tuple1, r_int1, r_neg, List.replicate_succ, List.replicate_zero, List.cons_append, List.nil_append, List.length_cons, List.length_nil]
    refine ⟨C.alike.1, i0 (i1 ?_)⟩
    simp only [wpE, wpL, wpB, wpO, r_add, r_sub, r_mul, r_mod, r_fdiv, r_adds, r_eqi, r_eqs, r_nei, r_nes, r_lt, r_le, r_gt, r_ge, r_is, r_isnot, r_isb, r_truth, r_idxs, r_idxl, r_slc, r_lens, r_lenr, r_lenl, r_inst, r_range, r_starts, r_starts', r_append, r_append', n_none, n_int, n_str, n_tup, n_ref, n_bool, isBool, List.getD_cons_zero, List.getD_cons_succ, ne_eq, reduceCtorEq, not_false_eq_true, true_and, List.set_cons_zero, List.set_cons_succ, Option.some.injEq, exists_eq_left', if_true, if_false, Bool.false_eq_true, Bool.not_true, Bool.not_false, i_none_str, i_none_int, i_none_bool, i_none_tuple, i_none_list, i_bool_str, i_bool_int, i_bool_bool, i_bool_tuple, i_bool_list, i_int_str, i_int_int, i_int_bool, i_int_tuple, i_int_list, i_str_str, i_str_int, i_str_bool, i_str_tuple, i_str_list, i_tup_str, i_tup_int, i_tup_bool, i_tup_tuple, i_tup_list, r_range2, r_lent, r_tuple1, r_int1, r_neg, List.replicate_succ, List.replicate_zero, List.cons_append, List.nil_append, List.length_cons, List.length_nil]
    refine ⟨by omega, i2 ⟨(show 3 ≤ sizeLine by decide), c_alike C.ok C.alike C.whole C.ty 5 (p3 _).alk (by decide) rfl ?_⟩⟩
    simp only [wpE, wpL, wpB, wpO, r_add, r_sub, r_mul, r_mod, r_fdiv, r_adds, r_eqi, r_eqs, r_nei, r_nes, r_lt, r_le, r_gt, r_ge, r_is, r_isnot, r_isb, r_truth, r_idxs, r_idxl, r_slc, r_lens, r_lenr, r_lenl, r_inst, r_range, r_starts, r_starts', r_append, r_append', n_none, n_int, n_str, n_tup, n_ref, n_bool, isBool, List.getD_cons_zero, List.getD_cons_succ, ne_eq, reduceCtorEq, not_false_eq_true, true_and, List.set_cons_zero, List.set_cons_succ, Option.some.injEq, exists_eq_left', if_true, if_false, Bool.false_eq_true, Bool.not_true, Bool.not_false, i_none_str, i_none_int, i_none_bool, i_none_tuple, i_none_list, i_bool_str, i_bool_int, i_bool_bool, i_bool_tuple, i_bool_list, i_int_str, i_int_int, i_int_bool, i_int_tuple, i_int_list, i_str_str, i_str_int, i_str_bool, i_str_tuple, i_str_list, i_tup_str, i_tup_int, i_tup_bool, i_tup_tuple, i_tup_list, r_range2, r_lent, r_tuple1, r_int1, r_neg, List.replicate_succ, List.replicate_zero, List.cons_append, List.nil_append, List.length_cons, List.length_nil]
    refine ⟨C.alike.1, C.knot.1, hkn (by decide) rfl fun σ₃ x₃ => c_alike C.ok C.alike C.whole C.ty 5 (p3 _).alk (by decide) rfl rfl⟩
end Mine

set_option autoImplicit false
set_option maxRecDepth 100000
namespace Mine
open PySem PySem.W PyProof.Rows

def tyNames : List (Str × String) := [("str", "str"), ("int", "int"), ("bool", "bool"), ("tuple", "tuple"), ("list", "list")]
def glTy (x : Str) : V := match tyNames.lookup x with
  | some t => .prim (.type t)
  | none => .unb
theorem lookup_mem {α : Type} : ∀ {l : List (Str × α)} {x : Str} {t : α}, l.lookup x = some t → (x, t) ∈ l
  | (y, u) :: l, x, t, h => by
    rw [List.lookup_cons] at h
    split at h
    · rename_i e; cases h; have := eq_of_beq e; subst this; exact List.mem_cons_self ..
    · exact List.mem_cons_of_mem _ (lookup_mem h)
theorem boot_ty : ∀ p ∈ tyNames, bootBuiltins p.1 = some (.type p.2) := by
  intro p hp
  simp only [tyNames, List.mem_cons, List.not_mem_nil, or_false] at hp
  rcases hp with rfl | rfl | rfl | rfl | rfl <;> decide +kernel
theorem glTy_ok {p : Program} {loose : List Str} {mean : ExcName → Option Value} {mg mb : Str → Option Value} {h : Heap} (T : Top p loose mean mg mb h) (hf : (tyNames.all fun q => freeChk p loose q.1) = true) :
    ∀ x, glTy x ≠ .unb → ∃ v, (mg x = some v ∨ (mg x = none ∧ mb x = some v)) ∧ ∀ h', Rel h h' v (glTy x) := fun x hx => by
  unfold glTy at hx ⊢
  cases e : tyNames.lookup x with
  | none => rw [e] at hx; exact absurd rfl hx
  | some t =>
    have hm := lookup_mem e
    obtain ⟨h1, h2⟩ := top_builtin T (List.all_eq_true.mp hf _ hm)
    exact ⟨.type t, .inr ⟨h1, h2.trans (boot_ty _ hm)⟩, fun _ => .prim _⟩
theorem tyGl_of {G : Gl} (h : G.gl = glTy) : TyGl G := by
  constructor <;> rw [h] <;> rfl
end Mine

open PySem PySem.W PyProof.Rows
set_option Elab.async false
set_option maxRecDepth 100000
namespace Mine
open_top hd for PySem.Challenge.rw_uf020025_03
end Mine

open PySem PySem.W PyProof.Rows
set_option Elab.async false
set_option maxRecDepth 100000
namespace Mine
set_option maxHeartbeats 8000000 in
theorem final : PySem.Challenge.rw_uf020025_03.Holds := hd (by
  k_fill
  intro w s₀ s₁ mg mb G Y fa o pm cd doc dV kV ho hd' hcd hD hmg hg args vals as hpre hlay hrd hwl hlo
  refine Ground.open G ?_
  intro T B D TE TW
  wrow_args hpre hlay hrd hwl hlo
  all_goals (
    first | refine callC_kw (enter_call ?_) | refine enter_call ?_ | refine callC_kw (enter_callW ?_) | refine enter_callW ?_ | w_how)
  rename_i zs _ _ _ _ _ _ _ a vs _ hL _ _ _ hI _ hlen _
  let Gm : Gl := ⟨PySem.Challenge.rw_uf020025_03.row.prog, w, s₁.heap, mg, mb, glTy⟩
  have GO : Gm.Ok := top_gl T (by decide +kernel) (glTy_ok T (by decide +kernel))
  have TF := fun i x F => top_fns (prog := PySem.Challenge.rw_uf020025_03.row.prog) (w := w) (gl := glTy) T (by decide +kernel : okFns _ fns = true) i (x := x) (F := F)
  have C : C03 Gm := ⟨GO, TF 0 _ _ rfl, TF 1 _ _ rfl, TF 2 _ _ rfl, TF 3 _ _ rfl, TF 4 _ _ rfl, TF 5 _ _ rfl, TF 6 _ _ rfl, TF 7 _ _ rfl, tyGl_of rfl⟩
  have FL := (TF 8 "law" F_law rfl).2
  have ef : Gl.fn Gm "law" = fa := by
    unfold Gl.fn
    have : mg "law" = some (.ref fa) := hmg
    simp only [Gm, this]
  rw [ef] at FL
  exact head_ok GO FL rfl hg hL hI (fun _ => rfl) (law_post _ _) rfl (law03 C (by omega)))
end Mine

theorem PySem.Challenge.cw_uf020025_03_holds : PySem.Challenge.rw_uf020025_03.Holds :=
  Mine.final
